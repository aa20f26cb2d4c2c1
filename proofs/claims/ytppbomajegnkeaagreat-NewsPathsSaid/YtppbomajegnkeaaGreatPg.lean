/- For whatever news, cries, yT, notice and list, the law NewsPaths returns true and changes no argument: the path that is returned is one, ends at the yT and has as few jC as can be, and whether a list is a path is told as the reference tells it. -/
import Derived.Test.YtppbomajegnkeaaGreatPf
import Derived.Test.YtppbomajegnkeaaGreatPd
set_option linter.unusedVariables false
set_option linter.unusedSimpArgs false
set_option linter.unusedSectionVars false
set_option maxRecDepth 10000
set_option maxHeartbeats 4000000
namespace Go.Eng
open Go Go.Proofs
abbrev hdV (w:List Int):PV := .agg (zAO w 80)
def zP3 (w:List Int) (i:Nat) (x:Int):List Int:=w.set i (max (w.getD i 0) x)
theorem zIb {w:List Int} {i:Nat} {x:Int}:(zP3 w i x).length=w.length:=by simp [zP3]
def begC (n:Nw) (h:Nat) (w:List Int) (c:Int×Int):List Int:=if has (n.s.getD c.2.toNat []) h=true then zP3 w (h*8+((zAj n).getD c.1.toNat 0).toNat) c.1 else w
def begH (n:Nw) (h:Nat) (w:List Int) (cs:List (Int×Int)):List Int:=cs.foldl (begC n h) w
def begN (n:Nw) (cs:List (Int×Int)) (h:Nat):List Int:=(List.range h).foldl (fun w h=>begH n h w cs) (List.replicate 80 (-1))
def nxtR (now:List Int) (h o:Nat) (w:List Int) (k:Nat):List Int:=(List.range k).foldl (fun w i=>zP3 w (h*8+i) (now.getD (o*8+i) 0)) w
def nxtH (now:List Int) (h:Nat) (w:List Int) (l:List Nat):List Int:=l.foldl (fun w o=>nxtR now h o w 8) w
def nxtN (n:Nw) (now:List Int) (h:Nat):List Int:=(List.range h).foldl (fun w h=>nxtH now h w (zGG n h n.h.toNat)) now
def zL8 (n:Nw) (cs:List (Int×Int)):List Int:=begN n cs n.h.toNat
def zCF (n:Nw) (now:List Int):List Int:=nxtN n now n.h.toNat
def zAY (n:Nw) (cs:List (Int×Int)):Nat→List Int
 | 0=>zL8 n cs
 | k+1=>zCF n (zAY n cs k)
theorem zTr {n:Nw} {h:Nat} {w:List Int} {c:Int×Int}:(begC n h w c).length=w.length:=by unfold begC;split<;>simp [zIb]
theorem zKH {n:Nw} {h:Nat}:∀ {cs:List (Int×Int)} {w:List Int},(begH n h w cs).length=w.length
 | [],w=>rfl
 | c::cs,w=>by
  show (begH n h (begC n h w c) cs).length=_
  rw [zKH,zTr]
theorem zIL {n:Nw} {cs:List (Int×Int)} {h:Nat}:begN n cs (h+1)=begH n h (begN n cs h) cs:=by
 simp only [begN,List.range_succ,List.foldl_append,List.foldl_cons,List.foldl_nil]
theorem zK3 {n:Nw} {cs:List (Int×Int)}:∀ h,(begN n cs h).length=80
 | 0=>by simp [begN]
 | h+1=>by rw [zIL,zKH];exact zK3 h
theorem zRo {n:Nw} {h:Nat} {w:List Int} {cs:List (Int×Int)} {i:Nat} (hi:i<cs.length):begH n h w (cs.take (i+1))=begC n h (begH n h w (cs.take i)) (cs.getD i default):=zGA hi
theorem zJS {now w:List Int} {h o k:Nat}:nxtR now h o w (k+1)=zP3 (nxtR now h o w k) (h*8+k) (now.getD (o*8+k) 0):=by
 simp only [nxtR,List.range_succ,List.foldl_append,List.foldl_cons,List.foldl_nil]
theorem zGN {now w:List Int} {h o:Nat}:∀ k,(nxtR now h o w k).length=w.length
 | 0=>rfl
 | k+1=>by rw [zJS,zIb];exact zGN k
theorem zLa {now:List Int} {h:Nat}:∀ {l:List Nat} {w:List Int},(nxtH now h w l).length=w.length
 | [],_=>rfl
 | o::l,w=>by
  show (nxtH now h (nxtR now h o w 8) l).length=_
  rw [zLa,zGN]
theorem zIE {n:Nw} {now:List Int} {h:Nat}:nxtN n now (h+1)=nxtH now h (nxtN n now h) (zGG n h n.h.toNat):=by
 simp only [nxtN,List.range_succ,List.foldl_append,List.foldl_cons,List.foldl_nil]
theorem zIj {n:Nw} {now:List Int}:∀ h,(nxtN n now h).length=now.length
 | 0=>rfl
 | h+1=>by rw [zIE,zLa];exact zIj h
theorem zQ7 {now:List Int} {h:Nat} {w:List Int} {l:List Nat} {i:Nat} (hi:i<l.length):nxtH now h w (l.take (i+1))=nxtR now h (l.getD i 0) (nxtH now h w (l.take i)) 8:=zGA hi
theorem zN1 {n:Nw} {cs:List (Int×Int)}:(zL8 n cs).length=80:=zK3 _
theorem zRg {n:Nw} {w:List Int} (h:w.length=80):(zCF n w).length=80:=by rw [zCF,zIj,h]
theorem zB5 {n:Nw} {cs:List (Int×Int)}:∀ k,(zAY n cs k).length=80
 | 0=>zN1
 | k+1=>zRg (zB5 k)
theorem zI1 {F:List Int} {i:Nat} {a:Int} (hF:F.length=8) (hi:i<8) (ha : -1≤a∧a<i) (j:Nat):(zL7 F i a).getD j 0=if j=i then (if a = -1 then (i:Int) else F.getD a.toNat 0) else F.getD j 0:=by
 unfold zL7
 by_cases hj:j=i
 ·subst hj
  rw [if_pos rfl]
  split
  ·rw [zDF,if_pos ⟨rfl,by omega⟩]
  ·rw [zDF,if_pos ⟨rfl,by simp;omega⟩,zDF,if_neg (by omega)]
 ·rw [if_neg hj]
  split
  ·rw [zDF,if_neg (fun h=>hj h.1.symm)]
  ·rw [zDF,if_neg (fun h=>hj h.1.symm),zDF,if_neg (fun h=>hj h.1.symm)]
theorem zNv {n:Nw} (ho:NwOk n):∀ i,i≤n.n.length→∀ j,j<i→0≤(zN6 n.n i).getD j 0∧(zN6 n.n i).getD j 0≤j
 | 0,_,j,hj=>absurd hj (Nat.not_lt_zero j)
 | i + 1,hi,j,hj=>by
  have h8:=ho.nl.2
  have ha:=ho.na i (by omega)
  rw [zN6,zI1 (zGX i) (by omega) ha]
  split
  ·subst j
   split
   ·omega
   ·have:=zNv ho i (by omega) ((n.n.getD i default).1.toNat) (by omega)
    omega
  ·exact zNv ho i (by omega) j (by omega)
theorem zBX {n:Nw} (ho:NwOk n) (j:Nat) (hj:j<n.n.length):0≤(zAj n).getD j 0∧(zAj n).getD j 0≤j:=zNv ho _ (Nat.le_refl _) j hj
theorem f100 (n:Nw) (cs:List (Int×Int)) (ho:CrW n cs):FG 100 [zDR n cs] (hdV (zL8 n cs)):=by
 have hb:=ho.nw.h
 have hn:=ho.nw
 have yO:=ho.len
 refine zAg Tryz.f100 ?_
 refine zAd 1<|zAa<|zAd 1<|zAa<|zAf<|zAd 1<|zAa<|zAi 0 ?_
 refine zAq (fun (h,w)=>h≤10∧w.length=80∧∀ j,j<h*8→w.getD j 0 = -1) (fun (h,w)=>[(3,.box (hdV w)),(11,I (h:Nat))]) (fun (h,_)=>10-h) ((0:Nat),List.replicate 80 0) ⟨by omega,rfl,fun j h=>by omega⟩ fun (h,w) ⟨hh,hw,ha⟩=>?_
 by_cases gz:h<10
 ·refine zAd 1<|zAa<|zAf<|zAI ((↑h:Int)<10) (by omega)<|zAk<|zAf<|zAi 1<|zAd 2<|zAa<|zAd 1<|zAa<|zAi 2 ?_
  refine zAq (fun (i,v)=>i≤8∧v.length=80∧∀ j,j<h*8+i→v.getD j 0 = -1) (fun (i,v)=>[(3,.box (hdV v)),(14,I (i:Nat))]) (fun (i,_)=>8-i) ((0:Nat),w) ⟨by omega,hw,fun j h=>ha j (by omega)⟩ fun (i,v) ⟨hi,hv,hav⟩=>?_
  by_cases yH:i<8
  ·refine zAd 1<|zAa<|zAf<|zAI ((↑i:Int)<8) (by omega)<|zAk<|zAf<|zAi 3<|zAd 2<|zAa<|zAe<|zAc 2<|S_a [(2,.ob)] (ap ((by exact zAp (by omega)):decide (h<10)=true) an)<|S_a [(2,.ob)] (ap ((by exact zAp (by omega)):decide (i<8)=true) an)<|S_a [(7,.root ((PV.agg (zAO (v.set (h*8+i) (-1)) 80)).box) true)] (ap (zPA (zKF (q:=(PV.agg (zAO v 80)).box) (xs:=[PV.agg (zAO v 80)]) (x:=PV.agg (zAO v 80)) (y:=PV.agg (zAO (v.set (h*8+i) (-1)) 80)) (q':=(PV.agg (zAO (v.set (h*8+i) (-1)) 80)).box) rfl (zNn (F:=v) (m:=80) (j:=h*8+i) (u:=-1) (by first | rfl | exact zBM (by kernel_rfl) | exact zBN (by kernel_rfl) | exact zC5 (by kernel_rfl) (by kernel_rfl) | exact zC7 (by kernel_rfl) | exact zDo (by kernel_rfl) (by kernel_rfl) | exact zC1 (by kernel_rfl) | (simp;done)) (by omega) (by omega)) rfl (hb:=zNf (F:=v) (m:=80) (j:=h*8+i) (by first | rfl | exact zBM (by kernel_rfl) | exact zBN (by kernel_rfl) | exact zC5 (by kernel_rfl) (by kernel_rfl) | exact zC7 (by kernel_rfl) | exact zDo (by kernel_rfl) (by kernel_rfl) | exact zC1 (by kernel_rfl) | (simp;done)) (by omega))) rfl:zBx (PV.agg (zAO v 80)).box [] 0 (0+(↑h:Int).toNat*(fun x=>x.size) Tryz.prog.types[128]+(↑i:Int).toNat*(fun x=>x.size) Tryz.prog.types[3]) (I (-1)).cells=some (PV.agg (zAO (v.set (h*8+i) (-1)) 80)).box∧zAF (PV.agg (zAO v 80)).box (PV.agg (zAO (v.set (h*8+i) (-1)) 80)).box []=true) an)<|zAa<|zAe<|S_a [(1,.v (I (↑(i+1):Int)))] (ap (wrN i) an)<|zAc 1<|zAa ?_
   refine ⟨(i+1,v.set (h*8+i) (-1)),⟨by omega,by simpa using hv,fun j hj=>?_⟩,by simp only;omega,by kernel_rfl,by kernel_rfl⟩
   rw [zDF]
   split
   ·rfl
   ·exact hav j (by omega)
  ·refine zAd 1<|zAa<|zAf<|zAQ ((↑i:Int)<8) (by omega)<|zAA 2<|zAe<|S_a [(1,.v (I (↑(h+1):Int)))] (ap (wrN h) an)<|zAc 1<|zAa ?_
   exact ⟨(h+1,v),⟨by omega,hv,fun j hj=>hav j (by omega)⟩,by simp only;omega,by kernel_rfl,by kernel_rfl⟩
 ·have hw0:w=List.replicate 80 (-1):=by
   refine List.ext_getElem (by simp [hw]) fun j h1 h2=>?_
   have:=ha j (by omega)
   rw [zAt h1] at this
   rw [this,List.getElem_replicate]
  clear ha
  have hw0':begN n cs 0=w:=by rw [hw0];rfl
  clear hw0
  refine zAd 1<|zAa<|zAf<|zAQ ((↑h:Int)<10) (by omega)<|zAA 0<|zAd 3<|zAa<|zAf<|zAd 6<|zAa<|zAi 4 ?_
  refine zAq (fun (h,v)=>h≤n.h.toNat∧v=begN n cs h) (fun (h,v)=>[(3,.box (hdV v)),(30,I (h:Nat))]) (fun (h,_)=>n.h.toNat-h) ((0:Nat),w) ⟨by omega,hw0'.symm⟩ fun (h,v) ⟨hh,hv⟩=>?_
  have jz:v.length=80:=by rw [hv];exact zK3 h
  by_cases gz:(h:Int)<n.h
  ·have yK:=zIL (n:=n) (cs:=cs) (h:=h)
   rw [← hv] at yK
   refine zAd 1<|zAa<|zAf<|zAI ((↑h:Int)<n.h) (by omega)<|zAk<|zAf<|zAi 5<|zAd 2<|zAa<|zAd 4<|S_a [(0,.n cs.length)] (ap (lnS prV cs) an)<|zAc 1<|zAa<|zAi 6 ?_
   refine zAq (fun (i,q)=>i≤cs.length∧q=begH n h v (cs.take i)) (fun (i,q)=>[(3,.box (hdV q)),(38,I (i:Nat))]) (fun (i,_)=>cs.length-i) ((0:Nat),v) ⟨by omega,rfl⟩ fun (i,q) ⟨hi,hq⟩=>?_
   have uf:q.length=80:=by rw [hq,zKH];exact jz
   by_cases yH:i<cs.length
   ·have hci:=zBB (d:=default) ho.cs i yH
    have jI:=zRo (n:=n) (h:=h) (w:=v) yH
    rw [← hq] at jI
    have gX:=zBX hn (cs.getD i default).1.toNat (by omega)
    have jo:=hn.nl
    have yp:=hci.2
    have v4:0≤(cs.getD i default).1∧(cs.getD i default).1<8:=by omega
    have gm:((zAj n).getD (cs.getD i default).1.toNat 0).toNat<8:=by have:=hn.nl;omega
    clear yK hv hq
    refine zAd 1<|zAa<|zAf<|zAI ((↑i:Int)<(↑cs.length:Int)) (by omega)<|zAk<|zAf<|zAi 7<|zAf<|zAe<|S_a [(2,.v (PV.agg [I (cs.getD i default).fst,I (cs.getD i default).snd]))] (ap (zBv default (by omega):(List.map prV cs)[i]? = some (PV.agg [I (cs.getD i default).fst,I (cs.getD i default).snd])) an)<|zAc 3<|zAa<|zAd 4<|S_a [(9,.ret (PV.bool (has (n.s.getD (cs.getD i default).snd.toNat []) (↑h:Int))) [])] (ap (f140 n (prs cs) (List.map pr2 n.l) (zAj n) (zBb n) (by omega) ((↑h:Int)) ((cs.getD i default).snd) (by omega)) an)<|zAa<|zDt (has (n.s.getD (cs.getD i default).snd.toNat []) (↑h:Int)) (fun k0=>(zAd 5<|S_a [(0,.ob),(1,.ob),(0,.v ((I ((zAj n).getD (cs.getD i default).fst.toNat 0)).ref))] (ap ((by exact zAp (by omega)):decide (0≤(cs.getD i default).fst)=true)<|ap ((by exact zAp (by omega)):decide ((cs.getD i default).fst.toNat<8)=true)<|ap (zEc (F:=zAj n) (m:=8) (j:=(cs.getD i default).fst.toNat) (by omega):zBK (PV.agg (zAO (zAj n) 8)).ref ((cs.getD i default).fst.toNat*(fun x=>x.size) Tryz.prog.types[3]) none=some (I ((zAj n).getD (cs.getD i default).fst.toNat 0)).ref) an)<|zAc 2<|zAa<|zAe<|zAc 4<|S_a [(2,.ob)] (ap ((by exact zAp (by omega)):decide (h<10)=true) an)<|S_a [(0,.ob),(1,.ob)] (ap ((by exact zAp (by omega)):decide (0≤(zAj n).getD (cs.getD i default).fst.toNat 0)=true)<|ap ((by exact zAp (by omega)):decide (((zAj n).getD (cs.getD i default).fst.toNat 0).toNat<8)=true) an)<|S_a [(0,.cs true ([I (q.getD (h*8+((zAj n).getD (cs.getD i default).fst.toNat 0).toNat) 0)]))] (ap (zC9 (q:=(PV.agg (zAO q 80)).box) (xs:=[PV.agg (zAO q 80)]) (x:=PV.agg (zAO q 80)) rfl rfl (zDW (F:=q) (m:=80) (j:=h*8+((zAj n).getD (cs.getD i default).fst.toNat 0).toNat) (by first | rfl | exact zBM (by kernel_rfl) | exact zBN (by kernel_rfl) | exact zC5 (by kernel_rfl) (by kernel_rfl) | exact zC7 (by kernel_rfl) | exact zDo (by kernel_rfl) (by kernel_rfl) | exact zC1 (by kernel_rfl) | (simp;done)) (by omega)):zAs 3 (PV.agg (zAO q 80)).box [] 0 (0+(↑h:Int).toNat*(fun x=>x.size) Tryz.prog.types[128]+((zAj n).getD (cs.getD i default).fst.toNat 0).toNat*(fun x=>x.size) Tryz.prog.types[3]) 1=some (true,[I (q.getD (h*8+((zAj n).getD (cs.getD i default).fst.toNat 0).toNat) 0)])) an)<|zAc 3<|S_a [(9,.ret (I (max (q.getD (h*8+((zAj n).getD (cs.getD i default).fst.toNat 0).toNat) 0) (cs.getD i default).fst)) [])] (ap (f165 (q.getD (h*8+((zAj n).getD (cs.getD i default).fst.toNat 0).toNat) 0) ((cs.getD i default).fst)) an)<|S_a [(2,.ob)] (ap ((by exact zAp (by omega)):decide (h<10)=true) an)<|S_a [(0,.ob),(1,.ob)] (ap ((by exact zAp (by omega)):decide (0≤(zAj n).getD (cs.getD i default).fst.toNat 0)=true)<|ap ((by exact zAp (by omega)):decide (((zAj n).getD (cs.getD i default).fst.toNat 0).toNat<8)=true) an)<|S_a [(8,.root ((PV.agg (zAO (q.set (h*8+((zAj n).getD (cs.getD i default).fst.toNat 0).toNat) (max (q.getD (h*8+((zAj n).getD (cs.getD i default).fst.toNat 0).toNat) 0) (cs.getD i default).fst)) 80)).box) true)] (ap (zPA (zKF (q:=(PV.agg (zAO q 80)).box) (xs:=[PV.agg (zAO q 80)]) (x:=PV.agg (zAO q 80)) (y:=PV.agg (zAO (q.set (h*8+((zAj n).getD (cs.getD i default).fst.toNat 0).toNat) (max (q.getD (h*8+((zAj n).getD (cs.getD i default).fst.toNat 0).toNat) 0) (cs.getD i default).fst)) 80)) (q':=(PV.agg (zAO (q.set (h*8+((zAj n).getD (cs.getD i default).fst.toNat 0).toNat) (max (q.getD (h*8+((zAj n).getD (cs.getD i default).fst.toNat 0).toNat) 0) (cs.getD i default).fst)) 80)).box) rfl (zNn (F:=q) (m:=80) (j:=h*8+((zAj n).getD (cs.getD i default).fst.toNat 0).toNat) (u:=max (q.getD (h*8+((zAj n).getD (cs.getD i default).fst.toNat 0).toNat) 0) (cs.getD i default).fst) (by first | rfl | exact zBM (by kernel_rfl) | exact zBN (by kernel_rfl) | exact zC5 (by kernel_rfl) (by kernel_rfl) | exact zC7 (by kernel_rfl) | exact zDo (by kernel_rfl) (by kernel_rfl) | exact zC1 (by kernel_rfl) | (simp;done)) (by omega) (by omega)) rfl (hb:=zNf (F:=q) (m:=80) (j:=h*8+((zAj n).getD (cs.getD i default).fst.toNat 0).toNat) (by first | rfl | exact zBM (by kernel_rfl) | exact zBN (by kernel_rfl) | exact zC5 (by kernel_rfl) (by kernel_rfl) | exact zC7 (by kernel_rfl) | exact zDo (by kernel_rfl) (by kernel_rfl) | exact zC1 (by kernel_rfl) | (simp;done)) (by omega))) rfl:zBx (PV.agg (zAO q 80)).box [] 0 (0+(↑h:Int).toNat*(fun x=>x.size) Tryz.prog.types[128]+((zAj n).getD (cs.getD i default).fst.toNat 0).toNat*(fun x=>x.size) Tryz.prog.types[3]) (I (max (q.getD (h*8+((zAj n).getD (cs.getD i default).fst.toNat 0).toNat) 0) (cs.getD i default).fst)).cells=some (PV.agg (zAO (q.set (h*8+((zAj n).getD (cs.getD i default).fst.toNat 0).toNat) (max (q.getD (h*8+((zAj n).getD (cs.getD i default).fst.toNat 0).toNat) 0) (cs.getD i default).fst)) 80)).box∧zAF (PV.agg (zAO q 80)).box (PV.agg (zAO (q.set (h*8+((zAj n).getD (cs.getD i default).fst.toNat 0).toNat) (max (q.getD (h*8+((zAj n).getD (cs.getD i default).fst.toNat 0).toNat) 0) (cs.getD i default).fst)) 80)).box []=true) an)<|zAa<|zAe<|S_a [(1,.v (I (↑(i+1):Int)))] (ap (wrN i) an)<|zAc 1<|zAa ?_)) (fun k0=>(zAk<|zAe<|S_a [(1,.v (I (↑(i+1):Int)))] (ap (wrN i) an)<|zAc 1<|zAa ?_))
    ·rw [begC,if_pos k0] at jI
     exact ⟨(i+1,zP3 q (h*8+((zAj n).getD (cs.getD i default).1.toNat 0).toNat) (cs.getD i default).1),⟨by omega,jI.symm⟩,by simp only;omega,by kernel_rfl,by kernel_rfl⟩
    ·rw [begC,if_neg (by rw [k0];simp)] at jI
     exact ⟨(i+1,q),⟨by omega,jI.symm⟩,by simp only;omega,by kernel_rfl,by kernel_rfl⟩
   ·refine zAd 1<|zAa<|zAf<|zAQ ((↑i:Int)<(↑cs.length:Int)) (by omega)<|zAA 6<|zAe<|S_a [(1,.v (I (↑(h+1):Int)))] (ap (wrN h) an)<|zAc 1<|zAa ?_
    rw [List.take_of_length_le (by omega)] at hq
    exact ⟨(h+1,q),⟨by omega,by rw [yK,hq]⟩,by simp only;omega,by kernel_rfl,by kernel_rfl⟩
  ·have e:h=n.h.toNat:=by omega
   subst e
   refine zAd 1<|zAa<|zAf<|zAQ ((↑n.h.toNat:Int)<n.h) (by omega)<|zAA 4<|zAd 2<|zAa<|zAm<|E_a [] an (PV.agg (zAO v 80)) [] ?_ rfl
   rw [hv];rfl
theorem zQd {n:Nw} {h o m:Nat} (ho:o∈zGG n h m):o<m:=by
 simp only [zGG,List.mem_filter,List.mem_range] at ho;exact ho.1
theorem zSO {w:List Int} {o i:Nat} (hi:i<8):((w.drop o).take 8).getD i 0=w.getD (o+i) 0:=by
 simp [List.getD_eq_getElem?_getD,List.getElem?_take,hi]
theorem f101 (n:Nw) (cs:List (Int×Int)) (now:List Int) (ho:NwOk n) (hw:now.length=80):FG 101 [zDR n cs,hdV now] (hdV (zCF n now)):=by
 have hb:=ho.h
 refine zAg Tryz.f101 ?_
 refine zAd 2<|zAa<|zAd 3<|zAa<|zAf<|zAd 6<|zAa<|zAi 0 ?_
 refine zAq (fun (h,v)=>h≤n.h.toNat∧v=nxtN n now h) (fun (h,v)=>[(5,.box (hdV v)),(16,I (h:Nat))]) (fun (h,_)=>n.h.toNat-h) ((0:Nat),now) ⟨by omega,rfl⟩ fun (h,v) ⟨hh,hv⟩=>?_
 have jz:v.length=80:=by rw [hv,zIj];exact hw
 by_cases gz:(h:Int)<n.h
 ·have yK:=zIE (n:=n) (now:=now) (h:=h)
  rw [← hv] at yK
  have hA:=zT7 n cs h ho gz
  refine zAd 1<|zAa<|zAf<|zAI ((↑h:Int)<n.h) (by omega)<|zAk<|zAf<|zAi 1<|zAd 3<|zAa<|zAd 2<|S_a [(7,.ret (PV.func 169 [] [(zDR n cs).ref,(I (↑h:Int)).ref]) [])] (ap (f116 n cs ((↑h:Int))) an)<|zAa<|zAi 2 ?_
  refine zOG (t:=21) hA (fun j q=>q=nxtH now h v ((zGG n h n.h.toNat).take j)) (fun q=>[(5,.box (hdV q))]) v rfl (fun j x q hx hq=>?_) (fun q hq=>?_)
  ·rw [List.getElem?_map] at hx
   obtain ⟨o,hm,rfl⟩:=Option.map_eq_some_iff.1 hx
   have hj:j<(zGG n h n.h.toNat).length:=(List.getElem?_eq_some_iff.1 hm).1
   have hol:o<n.h.toNat:=zQd (List.mem_of_getElem? hm)
   have uf:q.length=80:=by rw [hq,zLa];exact jz
   have jI:=zQ7 (now:=now) (h:=h) (w:=v) hj
   rw [← hq,show (zGG n h n.h.toNat).getD j 0=o by simp [List.getD_eq_getElem?_getD,hm]] at jI
   clear yK hv hA hq hm hj
   refine zO8 ?_
   refine zAe<|zAc 1<|zAa ?_
   refine ⟨rfl,by kernel_rfl,?_⟩
   refine zAi 3<|zAd 1<|S_a [(2,.ob)] (ap ((by exact zAp (by omega)):decide (o<10)=true) an)<|S_a [(0,.cs true (zAO (List.take 8 (List.drop (o*8) now)) 8))] (ap (zC9 (q:=(PV.agg (zAO now 80)).box) (xs:=[PV.agg (zAO now 80)]) (x:=PV.agg (zAO now 80)) rfl rfl (zU9 (K:=8) (c:=o*8) (by omega) (by first | rfl | exact zBM (by kernel_rfl) | exact zBN (by kernel_rfl) | exact zC1 (by kernel_rfl) | (simp;done)) (by omega) (by kernel_rfl)):zAs 3 (PV.agg (zAO now 80)).box [] 0 (0+(↑o:Int).toNat*(fun x=>x.size) Tryz.prog.types[128]) Tryz.prog.types[128].size=some (true,zAO (List.take 8 (List.drop (o*8) now)) 8)) an)<|zAc 1<|zAa<|zAi 4 ?_
   refine zAq (fun (i,p)=>i≤8∧p=nxtR now h o q i) (fun (i,p)=>[(5,.box (hdV p)),(26,I (i:Nat))]) (fun (i,_)=>8-i) ((0:Nat),q) ⟨by omega,rfl⟩ fun (i,p) ⟨hi,hp⟩=>?_
   have uz:p.length=80:=by rw [hp,zGN];exact uf
   by_cases yH:i<8
   ·have ya:=zJS (now:=now) (w:=q) (h:=h) (o:=o) (k:=i)
    rw [← hp,← zSO yH] at ya
    refine zAd 1<|zAa<|zAf<|zAI ((↑i:Int)<8) (by omega)<|zAk<|zAf<|zAi 5<|zAd 1<|S_a [(2,.ob),(0,.v (I ((List.take 8 (List.drop (o*8) now)).getD i 0)))] (ap ((by exact zAp (by omega)):decide (i<8)=true)<|ap (zS5 (F:=List.take 8 (List.drop (o*8) now)) (m:=8) (j:=i) (by omega):sub (PV.agg (zAO (List.take 8 (List.drop (o*8) now)) 8)) (i*(fun x=>x.size) Tryz.prog.types[3]) none=some (I ((List.take 8 (List.drop (o*8) now)).getD i 0))) an)<|zAc 2<|zAa<|zAe<|zAc 4<|S_a [(2,.ob)] (ap ((by exact zAp (by omega)):decide (h<10)=true) an)<|S_a [(2,.ob)] (ap ((by exact zAp (by omega)):decide (i<8)=true) an)<|S_a [(0,.cs true ([I (p.getD (h*8+i) 0)]))] (ap (zC9 (q:=(PV.agg (zAO p 80)).box) (xs:=[PV.agg (zAO p 80)]) (x:=PV.agg (zAO p 80)) rfl rfl (zDW (F:=p) (m:=80) (j:=h*8+i) (by first | rfl | exact zBM (by kernel_rfl) | exact zBN (by kernel_rfl) | exact zC5 (by kernel_rfl) (by kernel_rfl) | exact zC7 (by kernel_rfl) | exact zDo (by kernel_rfl) (by kernel_rfl) | exact zC1 (by kernel_rfl) | (simp;done)) (by omega)):zAs 5 (PV.agg (zAO p 80)).box [] 0 (0+(↑h:Int).toNat*(fun x=>x.size) Tryz.prog.types[128]+(↑i:Int).toNat*(fun x=>x.size) Tryz.prog.types[3]) 1=some (true,[I (p.getD (h*8+i) 0)])) an)<|zAc 2<|S_a [(9,.ret (I (max (p.getD (h*8+i) 0) ((List.take 8 (List.drop (o*8) now)).getD i 0))) [])] (ap (f165 (p.getD (h*8+i) 0) ((List.take 8 (List.drop (o*8) now)).getD i 0)) an)<|S_a [(2,.ob)] (ap ((by exact zAp (by omega)):decide (h<10)=true) an)<|S_a [(2,.ob)] (ap ((by exact zAp (by omega)):decide (i<8)=true) an)<|S_a [(8,.root ((PV.agg (zAO (p.set (h*8+i) (max (p.getD (h*8+i) 0) ((List.take 8 (List.drop (o*8) now)).getD i 0))) 80)).box) true)] (ap (zPA (zKF (q:=(PV.agg (zAO p 80)).box) (xs:=[PV.agg (zAO p 80)]) (x:=PV.agg (zAO p 80)) (y:=PV.agg (zAO (p.set (h*8+i) (max (p.getD (h*8+i) 0) ((List.take 8 (List.drop (o*8) now)).getD i 0))) 80)) (q':=(PV.agg (zAO (p.set (h*8+i) (max (p.getD (h*8+i) 0) ((List.take 8 (List.drop (o*8) now)).getD i 0))) 80)).box) rfl (zNn (F:=p) (m:=80) (j:=h*8+i) (u:=max (p.getD (h*8+i) 0) ((List.take 8 (List.drop (o*8) now)).getD i 0)) (by first | rfl | exact zBM (by kernel_rfl) | exact zBN (by kernel_rfl) | exact zC5 (by kernel_rfl) (by kernel_rfl) | exact zC7 (by kernel_rfl) | exact zDo (by kernel_rfl) (by kernel_rfl) | exact zC1 (by kernel_rfl) | (simp;done)) (by omega) (by omega)) rfl (hb:=zNf (F:=p) (m:=80) (j:=h*8+i) (by first | rfl | exact zBM (by kernel_rfl) | exact zBN (by kernel_rfl) | exact zC5 (by kernel_rfl) (by kernel_rfl) | exact zC7 (by kernel_rfl) | exact zDo (by kernel_rfl) (by kernel_rfl) | exact zC1 (by kernel_rfl) | (simp;done)) (by omega))) rfl:zBx (PV.agg (zAO p 80)).box [] 0 (0+(↑h:Int).toNat*(fun x=>x.size) Tryz.prog.types[128]+(↑i:Int).toNat*(fun x=>x.size) Tryz.prog.types[3]) (I (max (p.getD (h*8+i) 0) ((List.take 8 (List.drop (o*8) now)).getD i 0))).cells=some (PV.agg (zAO (p.set (h*8+i) (max (p.getD (h*8+i) 0) ((List.take 8 (List.drop (o*8) now)).getD i 0))) 80)).box∧zAF (PV.agg (zAO p 80)).box (PV.agg (zAO (p.set (h*8+i) (max (p.getD (h*8+i) 0) ((List.take 8 (List.drop (o*8) now)).getD i 0))) 80)).box []=true) an)<|zAa<|zAe<|S_a [(1,.v (I (↑(i+1):Int)))] (ap (wrN i) an)<|zAc 1<|zAa ?_
    exact ⟨(i+1,_),⟨by omega,ya.symm⟩,by simp only;omega,by kernel_rfl,by kernel_rfl⟩
   ·refine zAd 1<|zAa<|zAf<|zAQ ((↑i:Int)<8) (by omega)<|zAA 4 ?_
    rw [show i=8 by omega] at hp
    exact ⟨by kernel_rfl,p,by rw [jI,hp],by kernel_rfl⟩
  ·rw [List.length_map,List.take_length] at hq
   show W _ _ _ _ _ _ _ _
   refine zAe<|S_a [(1,.v (I (↑(h+1):Int)))] (ap (wrN h) an)<|zAc 1<|zAa ?_
   exact ⟨(h+1,q),⟨by omega,by rw [yK,hq]⟩,by simp only;omega,by kernel_rfl,by kernel_rfl⟩
 ·have e:h=n.h.toNat:=by omega
  subst e
  refine zAd 1<|zAa<|zAf<|zAQ ((↑n.h.toNat:Int)<n.h) (by omega)<|zAA 0<|zAd 2<|zAa<|zAm<|E_a [] an (PV.agg (zAO v 80)) [] ?_ rfl
  rw [hv];rfl
end Go.Eng
set_option maxRecDepth 10000
set_option maxHeartbeats 4000000
namespace Go.Eng
open Go Go.Proofs
def zSA (n:Nw) (w:List Int) (h i:Nat):Bool:=decide (w.getD (h*8+((zAj n).getD i 0).toNat) 0=i)&&decide ((zBb n).getD i 0≠i)
def zP5 (n:Nw) (w:List Int) (h k:Nat):List (Int×Int):=((List.range k).filter fun i=>zSA n w h i).map fun (i:Nat)=>((h:Int),(i:Int))
def zUc (n:Nw) (w:List Int) (h:Nat):List (Int×Int):=(List.range h).flatMap fun h=>zP5 n w h n.n.length
def zBW (n:Nw) (w:List Int):List (Int×Int):=zUc n w n.h.toNat
theorem zQp {n:Nw} {w:List Int} {h k:Nat}:zP5 n w h (k+1)=if zSA n w h k=true then zP5 n w h k++[((h:Int),(k:Int))] else zP5 n w h k:=by
 unfold zP5;rw [List.range_succ,List.filter_append,List.map_append]
 by_cases hn:zSA n w h k=true
 ·rw [if_pos hn];simp [hn]
 ·rw [if_neg hn];simp [hn]
theorem zLT {n:Nw} {w:List Int} {h:Nat}:zUc n w (h+1)=zUc n w h++zP5 n w h n.n.length:=by
 unfold zUc;rw [List.range_succ,List.flatMap_append];simp
theorem zOu {n:Nw} {w:List Int} {h k:Nat}:(zP5 n w h k).length≤k:=by
 unfold zP5;rw [List.length_map];exact Nat.le_trans (List.length_filter_le _ _) (by simp)
theorem zLh {n:Nw} {w:List Int}:∀ h,(zUc n w h).length≤h*n.n.length
 | 0=>by simp [zUc]
 | h+1=>by
  have h1:=zLh (n:=n) (w:=w) h
  have h2:=zOu (n:=n) (w:=w) (h:=h) (k:=n.n.length)
  rw [zLT,List.length_append,Nat.succ_mul];omega
theorem zJL {n:Nw} {w:List Int} (ho:NwOk n):(zBW n w).length≤80:=by
 have h1:=zLh (n:=n) (w:=w) n.h.toNat
 have h2:=ho.h
 have h3:=ho.nl
 have h4:n.h.toNat*n.n.length≤10*8:=Nat.mul_le_mul (by omega) (by omega)
 unfold zBW;omega
theorem f92 (n:Nw) (cs:List (Int×Int)) (e:Int) (ho:CrW n cs) (he:0≤e∧e≤1000):FG 92 [zDR n cs,I e] (hdV (zAY n cs e.toNat)):=by
 have hn:=ho.nw
 refine zAg Tryz.f92 ?_
 refine zAd 1<|zAa<|zAd 1<|S_a [(5,.ret (hdV (zL8 n cs)) [])] (ap (f100 n cs (by omega)) an)<|zAc 2<|zAa<|zAf<|zAd 2<|zAa<|zAi 0 ?_
 refine zAq (fun (k,w)=>k≤e.toNat∧w=zAY n cs k) (fun (k,w)=>[(5,.box (hdV w)),(9,I (k:Nat))]) (fun (k,_)=>e.toNat-k) ((0:Nat),zL8 n cs) ⟨by omega,rfl⟩ fun (k,w) ⟨hk,hw⟩=>?_
 have LA:w.length=80:=by rw [hw];exact zB5 k
 by_cases kf:(k:Int)<e
 ·refine zAd 1<|zAa<|zAf<|zAI ((↑k:Int)<e) (by omega)<|zAk<|zAf<|zAi 1<|zAe<|zAc 2<|S_a [(7,.ret (hdV (zCF n w)) [])] (ap (f101 n cs w (by omega) (by omega)) an)<|zAc 1<|zAa<|zAe<|S_a [(1,.v (I (↑(k+1):Int)))] (ap (wrN k) an)<|zAc 1<|zAa ?_
  exact ⟨(k+1,zCF n w),⟨by omega,by rw [hw];rfl⟩,by simp only;omega,by kernel_rfl,by kernel_rfl⟩
 ·refine zAd 1<|zAa<|zAf<|zAQ ((↑k:Int)<e) (by omega)<|zAA 0<|zAd 2<|zAa<|zAm<|E_a [] an (PV.agg (zAO w 80)) [] ?_ rfl
  rw [hw,show k=e.toNat by omega]
theorem f91 (n:Nw) (cs:List (Int×Int)) (w:List Int) (ho:NwOk n) (hw:w.length=80):FG 91 [zDR n cs,hdV w] (.own 2 ((zBW n w).map prV)):=by
 have hb:=ho.h
 have jo:=ho.nl
 refine zAg Tryz.f91 ?_
 refine zAd 2<|zAa<|zAd 1<|zAa<|zAf<|zAd 6<|zAa<|zAi 0 ?_
 refine zAq (fun (h,l)=>h≤n.h.toNat∧l=zUc n w h) (fun (h,l)=>[(5,.own 2 (l.map prV)),(13,I (h:Nat))]) (fun (h,_)=>n.h.toNat-h) ((0:Nat),([]:List (Int×Int))) ⟨by omega,rfl⟩ fun (h,l) ⟨hh,hl⟩=>?_
 have w5:l.length≤h*8:=by
  have h1:=zLh (n:=n) (w:=w) h
  rw [← hl] at h1
  exact Nat.le_trans h1 (Nat.mul_le_mul (Nat.le_refl _) (by omega))
 by_cases gz:(h:Int)<n.h
 ·have yK:=zLT (n:=n) (w:=w) (h:=h)
  rw [← hl] at yK
  refine zAd 1<|zAa<|zAf<|zAI ((↑h:Int)<n.h) (by omega)<|zAk<|zAf<|zAi 1<|zAd 2<|zAa<|zAd 5<|S_a [(0,.n n.n.length)] (ap (lnS ntV n.n) an)<|zAc 1<|zAa<|zAi 2 ?_
  refine zAq (fun (i,m)=>i≤n.n.length∧m=l++zP5 n w h i) (fun (i,m)=>[(5,.own 2 (m.map prV)),(22,I (i:Nat))]) (fun (i,_)=>n.n.length-i) ((0:Nat),l) ⟨by omega,by simp [zP5]⟩ fun (i,m) ⟨hi,hm⟩=>?_
  have hml:m.length≤88:=by
   have:=zOu (n:=n) (w:=w) (h:=h) (k:=i)
   rw [hm,List.length_append];omega
  by_cases yH:i<n.n.length
  ·have ya:=zQp (n:=n) (w:=w) (h:=h) (k:=i)
   have gX:=zBX ho i yH
   have gm:0≤(zAj n).getD i 0∧(zAj n).getD i 0<8:=by omega
   clear yK
   have jJ:zSA n w h i=false→m=l++zP5 n w h (i+1):=fun hg=>by rw [ya,if_neg (by rw [hg];simp)];exact hm
   refine zAd 1<|zAa<|zAf<|zAI ((↑i:Int)<(↑n.n.length:Int)) (by omega)<|zAk<|zAf<|zAi 3<|zAd 2<|zAa<|zAd 5<|S_a [(2,.ob),(0,.v ((I ((zAj n).getD i 0)).ref))] (ap ((by exact zAp (by omega)):decide (i<8)=true)<|ap (zEc (F:=zAj n) (m:=8) (j:=i) (by omega):zBK (PV.agg (zAO (zAj n) 8)).ref (i*(fun x=>x.size) Tryz.prog.types[3]) none=some (I ((zAj n).getD i 0)).ref) an)<|zAc 1<|S_a [(2,.ob)] (ap ((by exact zAp (by omega)):decide (h<10)=true) an)<|S_a [(0,.ob),(1,.ob)] (ap ((by exact zAp (by omega)):decide (0≤(zAj n).getD i 0)=true)<|ap ((by exact zAp (by omega)):decide (((zAj n).getD i 0).toNat<8)=true) an)<|S_a [(0,.cs true ([I (w.getD (h*8+((zAj n).getD i 0).toNat) 0)]))] (ap (zC9 (q:=(PV.agg (zAO w 80)).box) (xs:=[PV.agg (zAO w 80)]) (x:=PV.agg (zAO w 80)) rfl rfl (zDW (F:=w) (m:=80) (j:=h*8+((zAj n).getD i 0).toNat) (by first | rfl | exact zBM (by kernel_rfl) | exact zBN (by kernel_rfl) | exact zC5 (by kernel_rfl) (by kernel_rfl) | exact zC7 (by kernel_rfl) | exact zDo (by kernel_rfl) (by kernel_rfl) | exact zC1 (by kernel_rfl) | (simp;done)) (by omega)):zAs 3 (PV.agg (zAO w 80)).box [] 0 (0+(↑h:Int).toNat*(fun x=>x.size) Tryz.prog.types[128]+((zAj n).getD i 0).toNat*(fun x=>x.size) Tryz.prog.types[3]) 1=some (true,[I (w.getD (h*8+((zAj n).getD i 0).toNat) 0)])) an)<|zAc 3<|zD5 37 (w.getD (h*8+((zAj n).getD i 0).toNat) 0=(↑i:Int)) (fun k0=>(zAc 4<|S_a [(2,.ob),(0,.v ((I ((zBb n).getD i 0)).ref))] (ap ((by exact zAp (by omega)):decide (i<8)=true)<|ap (zEc (F:=zBb n) (m:=8) (j:=i) (by omega):zBK (PV.agg (zAO (zBb n) 8)).ref (i*(fun x=>x.size) Tryz.prog.types[3]) none=some (I ((zBb n).getD i 0)).ref) an)<|zAc 4<|zAa<|zDc ((zBb n).getD i 0=(↑i:Int)) (fun k1=>(zAe<|zAc 5<|S_a [(4,.ob),(0,.ob),(0,.yes),(2,.v (PV.own 2 (List.map prV (m++[((↑h:Int),(↑i:Int))]))))] (ap (blz (List.map prV m))<|ap ((by exact zBz (by simp only [List.length_map,zzLn,zA5]<;>omega)):((List.map prV m).length + [PV.agg [I (↑h:Int),I (↑i:Int)]].length).ble zA5=true)<|ap ((by exact zBO (by simp<;>omega)):(0+(List.map prV m).length).beq (List.map prV m).length=true)<|ap ((zA3 (zDG (by kernel_rfl))):PV.own 2 (List.map prV m++[PV.agg [I (↑h:Int),I (↑i:Int)]])=PV.own 2 (List.map prV (m++[((↑h:Int),(↑i:Int))]))) an)<|zAc 1<|zAa<|zAe<|S_a [(1,.v (I (↑(i+1):Int)))] (ap (wrN i) an)<|zAc 1<|zAa ?_)) (fun k1=>(zAk<|zAe<|S_a [(1,.v (I (↑(i+1):Int)))] (ap (wrN i) an)<|zAc 1<|zAa ?_)))) (fun k0=>(zAc 9<|zAa<|zAw<|zAk<|zAe<|S_a [(1,.v (I (↑(i+1):Int)))] (ap (wrN i) an)<|zAc 1<|zAa ?_))
   ·have hg:zSA n w h i=true:=by simp only [zSA,decide_eq_true k0,Bool.true_and,decide_eq_true_eq];exact k1
    exact ⟨(i+1,m++[((h:Int),(i:Int))]),⟨by omega,by rw [ya,if_pos hg,hm,List.append_assoc]⟩,by simp only;omega,by kernel_rfl,by kernel_rfl⟩
   ·exact ⟨(i+1,m),⟨by omega,jJ (by simp only [zSA,decide_eq_true k0,Bool.true_and,decide_eq_false_iff_not];exact fun h=>h k1)⟩,by simp only;omega,by kernel_rfl,by kernel_rfl⟩
   ·exact ⟨(i+1,m),⟨by omega,jJ (by simp only [zSA,decide_eq_false k0,Bool.false_and])⟩,by simp only;omega,by kernel_rfl,by kernel_rfl⟩
  ·refine zAd 1<|zAa<|zAf<|zAQ ((↑i:Int)<(↑n.n.length:Int)) (by omega)<|zAA 2<|zAe<|S_a [(1,.v (I (↑(h+1):Int)))] (ap (wrN h) an)<|zAc 1<|zAa ?_
   exact ⟨(h+1,m),⟨by omega,by rw [yK,hm,show i=n.n.length by omega]⟩,by simp only;omega,by kernel_rfl,by kernel_rfl⟩
 ·have e:h=n.h.toNat:=by omega
  subst e
  refine zAd 1<|zAa<|zAf<|zAQ ((↑n.h.toNat:Int)<n.h) (by omega)<|zAA 0<|zAd 1<|S_a [(2,.yes)] (ap ((by exact zBO (by simp<;>omega)):(Nat.beq 0 0&&(List.map prV l).length.beq (List.map prV l).length)=true) an)<|zAa<|zAm<|E_a [(1,.yes),(1,.v (PV.own 2 (List.map prV l)))] (ap (blz (List.map prV l))<|ap ((zA3 zAW):PV.own 2 (List.take (List.map prV l).length (List.drop 0 (List.map prV l)))=PV.own 2 (List.map prV l)) an) (PV.own 2 (List.map prV l)) [] ?_ rfl
  rw [hl];rfl
theorem f22_1 (n:Nw) (cs:List (Int×Int)) (e:Int) (ho:EvOk n cs e):FG 22 [nwV n,prs cs,I e] (.tup [.own 2 ((zBW n (zAY n cs e.toNat)).map prV),I 0]):=by
 have hc:=ho.cr
 have uV:=hc.w
 have hn:=hc.nw
 have he:=ho.ev
 have hw:=zB5 (n:=n) (cs:=cs) e.toNat
 refine zAg Tryz.f22 ?_
 refine zAd 3<|zAa<|zAd 3<|S_a [(10,.ret (PV.tup [zDR n cs,I 0]) [])] (ap (f90_1 n cs e (by omega)) an)<|zAc 5<|zAa<|zAf<|zAd 2<|zAa<|zAw<|zAk<|zAd 3<|S_a [(7,.ret (hdV (zAY n cs e.toNat)) [])] (ap (f92 n cs e (by omega) (by omega)) an)<|S_a [(7,.ret (PV.own 2 (List.map prV (zBW n (zAY n cs e.toNat)))) [])] (ap (f91 n cs (zAY n cs e.toNat) (by omega) (by omega)) an)<|zAc 2<|zAa<|zAm<|E_a [(1,.yes),(1,.v (PV.own 2 (List.map prV (zBW n (zAY n cs e.toNat)))))] (ap (blz (List.map prV (zBW n (zAY n cs e.toNat))))<|ap ((zA3 zAW):PV.own 2 (List.take (List.map prV (zBW n (zAY n cs e.toNat))).length (List.drop 0 (List.map prV (zBW n (zAY n cs e.toNat)))))=PV.own 2 (List.map prV (zBW n (zAY n cs e.toNat)))) an) (PV.tup [PV.own 2 (List.map prV (zBW n (zAY n cs e.toNat))),I 0]) [] rfl rfl
def msl (n:Nw) (l:List (Int×Int)):List Int:=(l.filter fun g => !(n.n.getD g.2.toNat default).2).map Prod.fst
theorem zTe {n:Nw} {l:List (Int×Int)} {i:Nat} (hi:i<l.length):msl n (l.take (i+1))=if (n.n.getD (l.getD i default).2.toNat default).2=true then msl n (l.take i) else msl n (l.take i)++[(l.getD i default).1]:=by
 unfold msl;rw [zB9 (d:=default) hi,List.filter_append,List.map_append]
 generalize l.getD i default=g
 cases hb:(n.n.getD g.2.toNat default).2
 ·rw [List.filter_cons_of_pos (by rw [hb];rfl)];rfl
 ·rw [List.filter_cons_of_neg (by rw [hb];simp)];simp
theorem zVL {n:Nw} {w:List Int} {g:Int×Int} (hg:g∈zBW n w):∃ h i:Nat,h<n.h.toNat∧i<n.n.length∧g=((h:Int),(i:Int))∧zSA n w h i=true:=by
 simp only [zBW,zUc,List.mem_flatMap,List.mem_range,zP5,List.mem_map,List.mem_filter] at hg
 obtain ⟨h,hh,i,⟨hi,hb⟩,rfl⟩:=hg
 exact ⟨h,i,hh,hi,rfl,hb⟩
theorem f26_1 (n:Nw) (cs:List (Int×Int)) (e:Int) (ho:EvOk n cs e):FG 26 [nwV n,prs cs,I e] (.tup [.own 1 ((zGK (msl n (zBW n (zAY n cs e.toNat)))).map I),I 0]):=by
 have hn:=ho.cr.nw
 have hX:=zJL (w:=zAY n cs e.toNat) hn
 have yw:∀ g∈zBW n (zAY n cs e.toNat),0≤g.2∧g.2<n.n.length:=fun g hg=>by
  obtain ⟨h,i,h1,h2,rfl,_⟩:=zVL hg
  simp only;omega
 have h1:=f22_1 n cs e ho
 generalize zBW n (zAY n cs e.toNat)=G at *
 refine zAg Tryz.f26 ?_
 refine zAd 3<|zAa<|zAd 3<|S_a [(10,.ret (PV.tup [PV.own 2 (List.map prV G),I 0]) [])] (ap h1 an)<|zAc 5<|zAa<|zAf<|zAd 2<|zAa<|zAw<|zAk<|zAd 1<|zAa<|zAf<|zAd 1<|S_a [(0,.n G.length)] (ap (lnS prV G) an)<|zAc 1<|zAa<|zAi 0 ?_
 refine zAq (fun (i,l)=>i≤G.length∧l=msl n (G.take i)) (fun (i,l)=>[(10,.own 1 (l.map I)),(25,I (i:Nat))]) (fun (i,_)=>G.length-i) ((0:Nat),([]:List Int)) ⟨by omega,by simp [msl]⟩ fun (i,l) ⟨hi,hl⟩=>?_
 have w5:l.length≤i:=by
  rw [hl,msl,List.length_map]
  exact Nat.le_trans (List.length_filter_le _ _) (by rw [List.length_take];omega)
 by_cases yH:i<G.length
 ·have jI:=zTe (n:=n) yH
  rw [← hl] at jI
  have hgi:=zBB (d:=default) yw i yH
  clear h1 yw
  refine zAd 1<|zAa<|zAf<|zAI ((↑i:Int)<(↑G.length:Int)) (by omega)<|zAk<|zAf<|zAi 1<|zAf<|zAe<|S_a [(2,.ob),(1,.n i)] (ap ((by exact zAp (by simp only [List.length_map,zzLn]<;>omega)):decide (i<(List.map prV G).length)=true)<|ap ((by simp):some (0+i)=some i) an)<|S_a [(0,.cs true ([I (G.getD i default).fst,I (G.getD i default).snd]))] (ap (zC9 (q:=PV.own 2 (List.map prV G)) (xs:=List.map prV G) (x:=PV.agg [I (G.getD i default).fst,I (G.getD i default).snd]) rfl (zBv default (by omega)):zAs 8 (PV.own 2 (List.map prV G)) [] i 0 Tryz.prog.types[108].size=some (true,[I (G.getD i default).fst,I (G.getD i default).snd])) an)<|zAc 2<|zAa<|zAd 4<|S_a [(0,.ob),(1,.v (PV.agg [I (n.n.getD (G.getD i default).snd.toNat default).fst,PV.bool (n.n.getD (G.getD i default).snd.toNat default).snd]))] (ap ((by exact zAp (by omega)):decide (0≤(G.getD i default).snd)=true)<|ap (zBv default (by omega):(List.map ntV n.n)[(G.getD i default).snd.toNat]? = some (PV.agg [I (n.n.getD (G.getD i default).snd.toNat default).fst,PV.bool (n.n.getD (G.getD i default).snd.toNat default).snd])) an)<|zAc 3<|zAa<|zDt (!(n.n.getD (G.getD i default).snd.toNat default).snd) (fun k0=>(zAe<|zAc 4<|S_a [(4,.ob),(0,.ob),(0,.yes),(2,.v (PV.own 1 (List.map I (l++[(G.getD i default).fst]))))] (ap (blz (List.map I l))<|ap ((by exact zBz (by simp only [List.length_map,zzLn,zA5]<;>omega)):((List.map I l).length + [I (G.getD i default).fst].length).ble zA5=true)<|ap ((by exact zBO (by simp<;>omega)):(0+(List.map I l).length).beq (List.map I l).length=true)<|ap ((zA3 (zDG (by kernel_rfl))):PV.own 1 (List.map I l++[I (G.getD i default).fst])=PV.own 1 (List.map I (l++[(G.getD i default).fst]))) an)<|zAc 1<|zAa<|zAe<|S_a [(1,.v (I (↑(i+1):Int)))] (ap (wrN i) an)<|zAc 1<|zAa ?_)) (fun k0=>(zAk<|zAe<|S_a [(1,.v (I (↑(i+1):Int)))] (ap (wrN i) an)<|zAc 1<|zAa ?_))
  ·rw [Bool.not_eq_true'] at k0
   rw [if_neg (by rw [k0];simp)] at jI
   exact ⟨(i+1,l++[(G.getD i default).1]),⟨by omega,jI.symm⟩,by simp only;omega,by kernel_rfl,by kernel_rfl⟩
  ·rw [Bool.not_eq_false'] at k0
   rw [if_pos k0] at jI
   exact ⟨(i+1,l),⟨by omega,jI.symm⟩,by simp only;omega,by kernel_rfl,by kernel_rfl⟩
 ·rw [List.take_of_length_le (by omega)] at hl
  rw [← hl]
  clear h1 yw
  refine zAd 1<|zAa<|zAf<|zAQ ((↑i:Int)<(↑G.length:Int)) (by omega)<|zAA 0<|zAd 1<|S_a [(3,.ob),(1,.v (PV.own 1 (List.map I l))),(2,.ret (PV.own 1 (List.map I (zGK l))) [])] (ap ((by exact zBz (by simp only [List.length_map,zzLn,zA5]<;>omega)):(List.map I l).length.ble (List.map I l).length=true)<|ap ((zA3 zAW):PV.own 1 (List.take (List.map I l).length (List.drop 0 (List.map I l)))=PV.own 1 (List.map I l))<|ap (f97 l (by omega)) an)<|zAc 2<|zAa<|zAm<|E_a [(1,.yes),(1,.v (PV.own 1 (List.map I (zGK l))))] (ap (blz (List.map I (zGK l)))<|ap ((zA3 zAW):PV.own 1 (List.take (List.map I (zGK l)).length (List.drop 0 (List.map I (zGK l))))=PV.own 1 (List.map I (zGK l))) an) (PV.tup [PV.own 1 (List.map I (zGK l)),I 0]) [] rfl rfl
theorem f29_1 (n:Nw) (cs:List (Int×Int)) (k:Nat) (ho:CrOk n cs) (hk:k≤1000) (he:zAY n cs (k+1)=zAY n cs k) (hm:∀ j,j<k→zAY n cs (j+1)≠zAY n cs j):FG 29 [nwV n,prs cs] (.tup [I k,I 0]):=by
 have hn:=ho.nw
 have uV:=ho.w
 have y7:=zN1 (n:=n) (cs:=cs)
 refine zAg Tryz.f29 ?_
 refine zAd 3<|zAa<|zAd 2<|S_a [(8,.ret (PV.tup [zDR n cs,I 0]) [])] (ap (f99_1 n cs (by omega)) an)<|zAc 5<|zAa<|zAf<|zAd 2<|zAa<|zAw<|zAk<|zAd 1<|S_a [(5,.ret (hdV (zL8 n cs)) [])] (ap (f100 n cs (by omega)) an)<|zAc 3<|zAa<|zAf<|zAd 2<|S_a [(7,.ret (hdV (zCF n (zL8 n cs))) [])] (ap (f101 n cs (zL8 n cs) (by omega) (by omega)) an)<|zAc 2<|zAa<|zAi 0 ?_
 refine zAq (fun j=>j≤k) (fun (j:Nat)=>[(8,I (j:Nat)),(9,.box (hdV (zAY n cs j))),(10,.box (hdV (zAY n cs (j+1))))]) (fun j=>k-j) (0:Nat) (by omega) fun j hj=>?_
 have wc:=zB5 (n:=n) (cs:=cs) j
 have hl2:=zB5 (n:=n) (cs:=cs) (j+1)
 by_cases qm:j<k
 ·have hI:=hm j qm
  refine zAf<|zAd 2<|S_a [(0,.v (PV.bool !decide (zAY n cs (j+1)=zAY n cs j)))] (ap (zRG 80 (by omega) (by omega):zJV Tryz.prog BinOp.neq 130 (PV.agg (zAO (zAY n cs (j+1)) 80)) (PV.agg (zAO (zAY n cs j) 80))=some (PV.bool !decide (zAY n cs (j+1)=zAY n cs j))) an)<|zAa<|zEy (zAY n cs (j+1)=zAY n cs j) (by omega)<|zAk<|zAf<|zAi 1<|zAd 2<|zAa<|zAe<|zAc 1<|S_a [(1,.v (I (↑(j+1):Int)))] (ap (wrN j) an)<|zAc 1<|zAa<|zAf<|zAd 1<|zAa<|zAe<|zAc 2<|zAa<|zAe<|zAc 2<|S_a [(7,.ret (hdV (zCF n (zAY n cs (j+1)))) [])] (ap (f101 n cs (zAY n cs (j+1)) (by omega) (by omega)) an)<|zAc 1<|zAa ?_
  exact ⟨j+1,by omega,by omega,by kernel_rfl,by kernel_rfl⟩
 ·have e:j=k:=by omega
  subst e
  refine zAf<|zAd 2<|S_a [(0,.v (PV.bool !decide (zAY n cs (j+1)=zAY n cs j)))] (ap (zRG 80 (by omega) (by omega):zJV Tryz.prog BinOp.neq 130 (PV.agg (zAO (zAY n cs (j+1)) 80)) (PV.agg (zAO (zAY n cs j) 80))=some (PV.bool !decide (zAY n cs (j+1)=zAY n cs j))) an)<|zAa<|zFL (zAY n cs (j+1)=zAY n cs j) (by omega)<|zAA 0<|zAd 3<|zAa<|zAm<|E_a [] an (PV.tup [I (↑j:Int),I 0]) [] rfl rfl
def zUK (n:Nw) (cs:List (Int×Int)) (k:Nat):Int:=(List.range k).foldl (fun a k=>if zBW n (zAY n cs k)=[] then a else (k:Int)+1) 0
theorem zQG {n:Nw} {cs:List (Int×Int)} {k:Nat}:zUK n cs (k+1)=if zBW n (zAY n cs k)=[] then zUK n cs k else (k:Int)+1:=by
 simp only [zUK,List.range_succ,List.foldl_append,List.foldl_cons,List.foldl_nil]
theorem f31_1 (n:Nw) (cs:List (Int×Int)) (ho:CrOk n cs):FG 31 [nwV n,prs cs] (.tup [if zBW n (zAY n cs 12)=[] then I (zUK n cs 12) else I 0,if zBW n (zAY n cs 12)=[] then I 0 else I 6]):=by
 have hn:=ho.nw
 have uV:=ho.w
 refine zAg Tryz.f31 ?_
 refine zAd 3<|zAa<|zAd 2<|S_a [(8,.ret (PV.tup [zDR n cs,I 0]) [])] (ap (f99_1 n cs (by omega)) an)<|zAc 5<|zAa<|zAf<|zAd 2<|zAa<|zAw<|zAk<|zAd 1<|S_a [(5,.ret (hdV (zL8 n cs)) [])] (ap (f100 n cs (by omega)) an)<|zAc 3<|zAa<|zAf<|zAd 1<|zAa<|zAi 0 ?_
 refine zAq (fun k=>k≤12) (fun (k:Nat)=>[(8,I (zUK n cs k)),(9,.box (hdV (zAY n cs k))),(22,I (k:Nat))]) (fun k=>12-k) (0:Nat) (by omega) fun k hk=>?_
 have wc:=zB5 (n:=n) (cs:=cs) k
 have hgl:=zJL (w:=zAY n cs k) hn
 by_cases kf:k<12
 ·have ya:=zQG (n:=n) (cs:=cs) (k:=k)
  refine zAd 1<|zAa<|zAf<|zAI ((↑k:Int)<12) (by omega)<|zAk<|zAf<|zAi 1<|zAd 2<|zAa<|zAf<|zAd 2<|S_a [(7,.ret (PV.own 2 (List.map prV (zBW n (zAY n cs k)))) [])] (ap (f91 n cs (zAY n cs k) (by omega) (by omega)) an)<|S_a [(0,.n ((zBW n (zAY n cs k)).length))] (ap (lnS prV (zBW n (zAY n cs k))) an)<|zAc 1<|zAa<|zCd ((↑(zBW n (zAY n cs k)).length:Int)>0) (fun k1=>(zAe<|zAc 1<|S_a [(1,.v (I (↑(k+1):Int)))] (ap (wrN k) an)<|zAc 1<|zAa<|zAe<|zAc 2<|S_a [(7,.ret (hdV (zCF n (zAY n cs k))) [])] (ap (f101 n cs (zAY n cs k) (by omega) (by omega)) an)<|zAc 1<|zAa<|zAe<|S_a [(1,.v (I (↑(k+1):Int)))] (ap (wrN k) an)<|zAc 1<|zAa ?_)) (fun k1=>(zAk<|zAe<|zAc 2<|S_a [(7,.ret (hdV (zCF n (zAY n cs k))) [])] (ap (f101 n cs (zAY n cs k) (by omega) (by omega)) an)<|zAc 1<|zAa<|zAe<|S_a [(1,.v (I (↑(k+1):Int)))] (ap (wrN k) an)<|zAc 1<|zAa ?_))
  ·rw [if_neg (by intro h;rw [h] at k1;simp at k1)] at ya
   exact ⟨k+1,by omega,by omega,by rw [ya];kernel_rfl,by kernel_rfl⟩
  ·rw [if_pos (List.eq_nil_of_length_eq_zero (by omega))] at ya
   exact ⟨k+1,by omega,by omega,by rw [ya];kernel_rfl,by kernel_rfl⟩
 ·have e:k=12:=by omega
  subst e
  refine zAd 1<|zAa<|zAf<|zAw<|zAA 0<|zAf<|zAd 2<|S_a [(7,.ret (PV.own 2 (List.map prV (zBW n (zAY n cs 12)))) [])] (ap (f91 n cs (zAY n cs 12) (by omega) (by omega)) an)<|S_a [(0,.n ((zBW n (zAY n cs 12)).length))] (ap (lnS prV (zBW n (zAY n cs 12))) an)<|zAc 1<|zAa<|zCd ((↑(zBW n (zAY n cs 12)).length:Int)>0) (fun k0=>(zAd 2<|zAa<|zAm<|E_a [] an (PV.tup [I 0,I 6]) [] ?_ rfl)) (fun k0=>(zAk<|zAd 3<|zAa<|zAm<|E_a [] an (PV.tup [I (zUK n cs 12),I 0]) [] ?_ rfl))
  ·have h:¬ zBW n (zAY n cs 12)=[]:=by intro h;rw [h] at k0;simp at k0
   rw [if_neg h,if_neg h]
  ·have h:zBW n (zAY n cs 12)=[]:=List.eq_nil_of_length_eq_zero (by omega)
   rw [if_pos h,if_pos h]
end Go.Eng
set_option maxRecDepth 10000
set_option maxHeartbeats 4000000
namespace Go.Eng
open Go Go.Proofs
theorem zTn {n:Nw} {cs:List (Int×Int)} {c:Int×Int} (h:CrW n cs) (hl:cs.length<1000) (hc:(0≤c.1∧c.1<n.n.length)∧(0≤c.2∧c.2<n.s.length)):CrW n (cs++[c]) :=
 ⟨h.nw,by simp;omega,fun x hx=>by
  rcases List.mem_append.1 hx with h1 | h1
  ·exact h.cs x h1
  ·rw [List.mem_singleton] at h1;subst h1;exact hc⟩
theorem zX9 (n:Nw) (c:Int×Int):FG 171 [zDR n [],prV c] (.box (zCv n (.own 2 (([]++[c]).map prV)) (mapM (n.l.map pr2)) (zAj n) (zBb n))):=by
 refine zAg Tryz.f171 ?_
 refine zAd 2<|zAa<|zAd 5<|zAa<|zAd 4<|zAc 1<|zAc 4<|zAc 1<|zAc 1<|zAc 3<|zAa<|zAd 1<|zAc 1<|zAc 4<|zAc 1<|zAa<|zAd 1<|zAc 1<|zAc 5<|zAa<|zAd 1<|zAa<|zAm<|E_a [] an ((PV.agg (I n.h::prs n.l::PV.sl (List.map ntV n.n)::PV.sl (List.map zAB n.s)::PV.own 2 [PV.agg [I c.fst,I c.snd]]::PV.map (List.map zBy (List.map pr2 n.l))::(zAO (zAj n) 8++zAO (zBb n) 8))).box) [] rfl rfl
theorem zX8 (n:Nw) (c:Int×Int) (x0:Int×Int):FG 171 [zDR n [x0],prV c] (.box (zCv n (.own 2 (([x0]++[c]).map prV)) (mapM (n.l.map pr2)) (zAj n) (zBb n))):=by
 refine zAg Tryz.f171 ?_
 refine zAd 2<|zAa<|zAd 5<|zAa<|zAd 4<|zAc 1<|zAc 4<|zAc 1<|zAc 1<|zAc 3<|zAa<|zAd 1<|zAc 1<|zAc 4<|zAc 1<|zAa<|zAd 1<|zAc 1<|zAc 5<|zAa<|zAd 1<|zAa<|zAm<|E_a [] an ((PV.agg (I n.h::prs n.l::PV.sl (List.map ntV n.n)::PV.sl (List.map zAB n.s)::PV.own 2 [PV.agg [I x0.fst,I x0.snd],PV.agg [I c.fst,I c.snd]]::PV.map (List.map zBy (List.map pr2 n.l))::(zAO (zAj n) 8++zAO (zBb n) 8))).box) [] rfl rfl
theorem zXB (n:Nw) (c:Int×Int) (x0 x1:Int×Int):FG 171 [zDR n [x0,x1],prV c] (.box (zCv n (.own 2 (([x0,x1]++[c]).map prV)) (mapM (n.l.map pr2)) (zAj n) (zBb n))):=by
 refine zAg Tryz.f171 ?_
 refine zAd 2<|zAa<|zAd 5<|zAa<|zAd 4<|zAc 1<|zAc 4<|zAc 1<|zAc 1<|zAc 3<|zAa<|zAd 1<|zAc 1<|zAc 4<|zAc 1<|zAa<|zAd 1<|zAc 1<|zAc 5<|zAa<|zAd 1<|zAa<|zAm<|E_a [] an ((PV.agg (I n.h::prs n.l::PV.sl (List.map ntV n.n)::PV.sl (List.map zAB n.s)::PV.own 2 [PV.agg [I x0.fst,I x0.snd],PV.agg [I x1.fst,I x1.snd],PV.agg [I c.fst,I c.snd]]::PV.map (List.map zBy (List.map pr2 n.l))::(zAO (zAj n) 8++zAO (zBb n) 8))).box) [] rfl rfl
theorem zYB (n:Nw) (c:Int×Int) (x0 x1 x2:Int×Int):FG 171 [zDR n [x0,x1,x2],prV c] (.box (zCv n (.own 2 (([x0,x1,x2]++[c]).map prV)) (mapM (n.l.map pr2)) (zAj n) (zBb n))):=by
 refine zAg Tryz.f171 ?_
 refine zAd 2<|zAa<|zAd 5<|zAa<|zAd 4<|zAc 1<|zAc 4<|zAc 1<|zAc 1<|zAc 3<|zAa<|zAd 1<|zAc 1<|zAc 4<|zAc 1<|zAa<|zAd 1<|zAc 1<|zAc 5<|zAa<|zAd 1<|zAa<|zAm<|E_a [] an ((PV.agg (I n.h::prs n.l::PV.sl (List.map ntV n.n)::PV.sl (List.map zAB n.s)::PV.own 2 [PV.agg [I x0.fst,I x0.snd],PV.agg [I x1.fst,I x1.snd],PV.agg [I x2.fst,I x2.snd],PV.agg [I c.fst,I c.snd]]::PV.map (List.map zBy (List.map pr2 n.l))::(zAO (zAj n) 8++zAO (zBb n) 8))).box) [] rfl rfl
theorem zXN (n:Nw) (c:Int×Int) (x0 x1 x2 x3:Int×Int):FG 171 [zDR n [x0,x1,x2,x3],prV c] (.box (zCv n (.own 2 (([x0,x1,x2,x3]++[c]).map prV)) (mapM (n.l.map pr2)) (zAj n) (zBb n))):=by
 refine zAg Tryz.f171 ?_
 refine zAd 2<|zAa<|zAd 5<|zAa<|zAd 4<|zAc 1<|zAc 4<|zAc 1<|zAc 1<|zAc 3<|zAa<|zAd 1<|zAc 1<|zAc 4<|zAc 1<|zAa<|zAd 1<|zAc 1<|zAc 5<|zAa<|zAd 1<|zAa<|zAm<|E_a [] an ((PV.agg (I n.h::prs n.l::PV.sl (List.map ntV n.n)::PV.sl (List.map zAB n.s)::PV.own 2 [PV.agg [I x0.fst,I x0.snd],PV.agg [I x1.fst,I x1.snd],PV.agg [I x2.fst,I x2.snd],PV.agg [I x3.fst,I x3.snd],PV.agg [I c.fst,I c.snd]]::PV.map (List.map zBy (List.map pr2 n.l))::(zAO (zAj n) 8++zAO (zBb n) 8))).box) [] rfl rfl
theorem zXF (n:Nw) (c:Int×Int) (x0 x1 x2 x3 x4:Int×Int):FG 171 [zDR n [x0,x1,x2,x3,x4],prV c] (.box (zCv n (.own 2 (([x0,x1,x2,x3,x4]++[c]).map prV)) (mapM (n.l.map pr2)) (zAj n) (zBb n))):=by
 refine zAg Tryz.f171 ?_
 refine zAd 2<|zAa<|zAd 5<|zAa<|zAd 4<|zAc 1<|zAc 4<|zAc 1<|zAc 1<|zAc 3<|zAa<|zAd 1<|zAc 1<|zAc 4<|zAc 1<|zAa<|zAd 1<|zAc 1<|zAc 5<|zAa<|zAd 1<|zAa<|zAm<|E_a [] an ((PV.agg (I n.h::prs n.l::PV.sl (List.map ntV n.n)::PV.sl (List.map zAB n.s)::PV.own 2 [PV.agg [I x0.fst,I x0.snd],PV.agg [I x1.fst,I x1.snd],PV.agg [I x2.fst,I x2.snd],PV.agg [I x3.fst,I x3.snd],PV.agg [I x4.fst,I x4.snd],PV.agg [I c.fst,I c.snd]]::PV.map (List.map zBy (List.map pr2 n.l))::(zAO (zAj n) 8++zAO (zBb n) 8))).box) [] rfl rfl
theorem zXI (n:Nw) (c:Int×Int) (x0 x1 x2 x3 x4 x5:Int×Int):FG 171 [zDR n [x0,x1,x2,x3,x4,x5],prV c] (.box (zCv n (.own 2 (([x0,x1,x2,x3,x4,x5]++[c]).map prV)) (mapM (n.l.map pr2)) (zAj n) (zBb n))):=by
 refine zAg Tryz.f171 ?_
 refine zAd 2<|zAa<|zAd 5<|zAa<|zAd 4<|zAc 1<|zAc 4<|zAc 1<|zAc 1<|zAc 3<|zAa<|zAd 1<|zAc 1<|zAc 4<|zAc 1<|zAa<|zAd 1<|zAc 1<|zAc 5<|zAa<|zAd 1<|zAa<|zAm<|E_a [] an ((PV.agg (I n.h::prs n.l::PV.sl (List.map ntV n.n)::PV.sl (List.map zAB n.s)::PV.own 2 [PV.agg [I x0.fst,I x0.snd],PV.agg [I x1.fst,I x1.snd],PV.agg [I x2.fst,I x2.snd],PV.agg [I x3.fst,I x3.snd],PV.agg [I x4.fst,I x4.snd],PV.agg [I x5.fst,I x5.snd],PV.agg [I c.fst,I c.snd]]::PV.map (List.map zBy (List.map pr2 n.l))::(zAO (zAj n) 8++zAO (zBb n) 8))).box) [] rfl rfl
theorem zYh (n:Nw) (c:Int×Int) (x0 x1 x2 x3 x4 x5 x6:Int×Int):FG 171 [zDR n [x0,x1,x2,x3,x4,x5,x6],prV c] (.box (zCv n (.own 2 (([x0,x1,x2,x3,x4,x5,x6]++[c]).map prV)) (mapM (n.l.map pr2)) (zAj n) (zBb n))):=by
 refine zAg Tryz.f171 ?_
 refine zAd 2<|zAa<|zAd 5<|zAa<|zAd 4<|zAc 1<|zAc 4<|zAc 1<|zAc 1<|zAc 3<|zAa<|zAd 1<|zAc 1<|zAc 4<|zAc 1<|zAa<|zAd 1<|zAc 1<|zAc 5<|zAa<|zAd 1<|zAa<|zAm<|E_a [] an ((PV.agg (I n.h::prs n.l::PV.sl (List.map ntV n.n)::PV.sl (List.map zAB n.s)::PV.own 2 [PV.agg [I x0.fst,I x0.snd],PV.agg [I x1.fst,I x1.snd],PV.agg [I x2.fst,I x2.snd],PV.agg [I x3.fst,I x3.snd],PV.agg [I x4.fst,I x4.snd],PV.agg [I x5.fst,I x5.snd],PV.agg [I x6.fst,I x6.snd],PV.agg [I c.fst,I c.snd]]::PV.map (List.map zBy (List.map pr2 n.l))::(zAO (zAj n) 8++zAO (zBb n) 8))).box) [] rfl rfl
theorem zXo (n:Nw) (c:Int×Int) (x0 x1 x2 x3 x4 x5 x6 x7:Int×Int):FG 171 [zDR n [x0,x1,x2,x3,x4,x5,x6,x7],prV c] (.box (zCv n (.own 2 (([x0,x1,x2,x3,x4,x5,x6,x7]++[c]).map prV)) (mapM (n.l.map pr2)) (zAj n) (zBb n))):=by
 refine zAg Tryz.f171 ?_
 refine zAd 2<|zAa<|zAd 5<|zAa<|zAd 4<|zAc 1<|zAc 4<|zAc 1<|zAc 1<|zAc 3<|zAa<|zAd 1<|zAc 1<|zAc 4<|zAc 1<|zAa<|zAd 1<|zAc 1<|zAc 5<|zAa<|zAd 1<|zAa<|zAm<|E_a [] an ((PV.agg (I n.h::prs n.l::PV.sl (List.map ntV n.n)::PV.sl (List.map zAB n.s)::PV.own 2 [PV.agg [I x0.fst,I x0.snd],PV.agg [I x1.fst,I x1.snd],PV.agg [I x2.fst,I x2.snd],PV.agg [I x3.fst,I x3.snd],PV.agg [I x4.fst,I x4.snd],PV.agg [I x5.fst,I x5.snd],PV.agg [I x6.fst,I x6.snd],PV.agg [I x7.fst,I x7.snd],PV.agg [I c.fst,I c.snd]]::PV.map (List.map zBy (List.map pr2 n.l))::(zAO (zAj n) 8++zAO (zBb n) 8))).box) [] rfl rfl
theorem zXy (n:Nw) (c:Int×Int) (x0 x1 x2 x3 x4 x5 x6 x7 x8:Int×Int):FG 171 [zDR n [x0,x1,x2,x3,x4,x5,x6,x7,x8],prV c] (.box (zCv n (.own 2 (([x0,x1,x2,x3,x4,x5,x6,x7,x8]++[c]).map prV)) (mapM (n.l.map pr2)) (zAj n) (zBb n))):=by
 refine zAg Tryz.f171 ?_
 refine zAd 2<|zAa<|zAd 5<|zAa<|zAd 4<|zAc 1<|zAc 4<|zAc 1<|zAc 1<|zAc 3<|zAa<|zAd 1<|zAc 1<|zAc 4<|zAc 1<|zAa<|zAd 1<|zAc 1<|zAc 5<|zAa<|zAd 1<|zAa<|zAm<|E_a [] an ((PV.agg (I n.h::prs n.l::PV.sl (List.map ntV n.n)::PV.sl (List.map zAB n.s)::PV.own 2 [PV.agg [I x0.fst,I x0.snd],PV.agg [I x1.fst,I x1.snd],PV.agg [I x2.fst,I x2.snd],PV.agg [I x3.fst,I x3.snd],PV.agg [I x4.fst,I x4.snd],PV.agg [I x5.fst,I x5.snd],PV.agg [I x6.fst,I x6.snd],PV.agg [I x7.fst,I x7.snd],PV.agg [I x8.fst,I x8.snd],PV.agg [I c.fst,I c.snd]]::PV.map (List.map zBy (List.map pr2 n.l))::(zAO (zAj n) 8++zAO (zBb n) 8))).box) [] rfl rfl
theorem zWY (n:Nw) (c:Int×Int) (x0 x1 x2 x3 x4 x5 x6 x7 x8 x9:Int×Int):FG 171 [zDR n [x0,x1,x2,x3,x4,x5,x6,x7,x8,x9],prV c] (.box (zCv n (.own 2 (([x0,x1,x2,x3,x4,x5,x6,x7,x8,x9]++[c]).map prV)) (mapM (n.l.map pr2)) (zAj n) (zBb n))):=by
 refine zAg Tryz.f171 ?_
 refine zAd 2<|zAa<|zAd 5<|zAa<|zAd 4<|zAc 1<|zAc 4<|zAc 1<|zAc 1<|zAc 3<|zAa<|zAd 1<|zAc 1<|zAc 4<|zAc 1<|zAa<|zAd 1<|zAc 1<|zAc 5<|zAa<|zAd 1<|zAa<|zAm<|E_a [] an ((PV.agg (I n.h::prs n.l::PV.sl (List.map ntV n.n)::PV.sl (List.map zAB n.s)::PV.own 2 [PV.agg [I x0.fst,I x0.snd],PV.agg [I x1.fst,I x1.snd],PV.agg [I x2.fst,I x2.snd],PV.agg [I x3.fst,I x3.snd],PV.agg [I x4.fst,I x4.snd],PV.agg [I x5.fst,I x5.snd],PV.agg [I x6.fst,I x6.snd],PV.agg [I x7.fst,I x7.snd],PV.agg [I x8.fst,I x8.snd],PV.agg [I x9.fst,I x9.snd],PV.agg [I c.fst,I c.snd]]::PV.map (List.map zBy (List.map pr2 n.l))::(zAO (zAj n) 8++zAO (zBb n) 8))).box) [] rfl rfl
theorem zWg (n:Nw) (c:Int×Int) (x0 x1 x2 x3 x4 x5 x6 x7 x8 x9 x10:Int×Int):FG 171 [zDR n [x0,x1,x2,x3,x4,x5,x6,x7,x8,x9,x10],prV c] (.box (zCv n (.own 2 (([x0,x1,x2,x3,x4,x5,x6,x7,x8,x9,x10]++[c]).map prV)) (mapM (n.l.map pr2)) (zAj n) (zBb n))):=by
 refine zAg Tryz.f171 ?_
 refine zAd 2<|zAa<|zAd 5<|zAa<|zAd 4<|zAc 1<|zAc 4<|zAc 1<|zAc 1<|zAc 3<|zAa<|zAd 1<|zAc 1<|zAc 4<|zAc 1<|zAa<|zAd 1<|zAc 1<|zAc 5<|zAa<|zAd 1<|zAa<|zAm<|E_a [] an ((PV.agg (I n.h::prs n.l::PV.sl (List.map ntV n.n)::PV.sl (List.map zAB n.s)::PV.own 2 [PV.agg [I x0.fst,I x0.snd],PV.agg [I x1.fst,I x1.snd],PV.agg [I x2.fst,I x2.snd],PV.agg [I x3.fst,I x3.snd],PV.agg [I x4.fst,I x4.snd],PV.agg [I x5.fst,I x5.snd],PV.agg [I x6.fst,I x6.snd],PV.agg [I x7.fst,I x7.snd],PV.agg [I x8.fst,I x8.snd],PV.agg [I x9.fst,I x9.snd],PV.agg [I x10.fst,I x10.snd],PV.agg [I c.fst,I c.snd]]::PV.map (List.map zBy (List.map pr2 n.l))::(zAO (zAj n) 8++zAO (zBb n) 8))).box) [] rfl rfl
theorem zWG (n:Nw) (c:Int×Int) (x0 x1 x2 x3 x4 x5 x6 x7 x8 x9 x10 x11:Int×Int):FG 171 [zDR n [x0,x1,x2,x3,x4,x5,x6,x7,x8,x9,x10,x11],prV c] (.box (zCv n (.own 2 (([x0,x1,x2,x3,x4,x5,x6,x7,x8,x9,x10,x11]++[c]).map prV)) (mapM (n.l.map pr2)) (zAj n) (zBb n))):=by
 refine zAg Tryz.f171 ?_
 refine zAd 2<|zAa<|zAd 5<|zAa<|zAd 4<|zAc 1<|zAc 4<|zAc 1<|zAc 1<|zAc 3<|zAa<|zAd 1<|zAc 1<|zAc 4<|zAc 1<|zAa<|zAd 1<|zAc 1<|zAc 5<|zAa<|zAd 1<|zAa<|zAm<|E_a [] an ((PV.agg (I n.h::prs n.l::PV.sl (List.map ntV n.n)::PV.sl (List.map zAB n.s)::PV.own 2 [PV.agg [I x0.fst,I x0.snd],PV.agg [I x1.fst,I x1.snd],PV.agg [I x2.fst,I x2.snd],PV.agg [I x3.fst,I x3.snd],PV.agg [I x4.fst,I x4.snd],PV.agg [I x5.fst,I x5.snd],PV.agg [I x6.fst,I x6.snd],PV.agg [I x7.fst,I x7.snd],PV.agg [I x8.fst,I x8.snd],PV.agg [I x9.fst,I x9.snd],PV.agg [I x10.fst,I x10.snd],PV.agg [I x11.fst,I x11.snd],PV.agg [I c.fst,I c.snd]]::PV.map (List.map zBy (List.map pr2 n.l))::(zAO (zAj n) 8++zAO (zBb n) 8))).box) [] rfl rfl
theorem zW8 (n:Nw) (c:Int×Int) (x0 x1 x2 x3 x4 x5 x6 x7 x8 x9 x10 x11 x12:Int×Int):FG 171 [zDR n [x0,x1,x2,x3,x4,x5,x6,x7,x8,x9,x10,x11,x12],prV c] (.box (zCv n (.own 2 (([x0,x1,x2,x3,x4,x5,x6,x7,x8,x9,x10,x11,x12]++[c]).map prV)) (mapM (n.l.map pr2)) (zAj n) (zBb n))):=by
 refine zAg Tryz.f171 ?_
 refine zAd 2<|zAa<|zAd 5<|zAa<|zAd 4<|zAc 1<|zAc 4<|zAc 1<|zAc 1<|zAc 3<|zAa<|zAd 1<|zAc 1<|zAc 4<|zAc 1<|zAa<|zAd 1<|zAc 1<|zAc 5<|zAa<|zAd 1<|zAa<|zAm<|E_a [] an ((PV.agg (I n.h::prs n.l::PV.sl (List.map ntV n.n)::PV.sl (List.map zAB n.s)::PV.own 2 [PV.agg [I x0.fst,I x0.snd],PV.agg [I x1.fst,I x1.snd],PV.agg [I x2.fst,I x2.snd],PV.agg [I x3.fst,I x3.snd],PV.agg [I x4.fst,I x4.snd],PV.agg [I x5.fst,I x5.snd],PV.agg [I x6.fst,I x6.snd],PV.agg [I x7.fst,I x7.snd],PV.agg [I x8.fst,I x8.snd],PV.agg [I x9.fst,I x9.snd],PV.agg [I x10.fst,I x10.snd],PV.agg [I x11.fst,I x11.snd],PV.agg [I x12.fst,I x12.snd],PV.agg [I c.fst,I c.snd]]::PV.map (List.map zBy (List.map pr2 n.l))::(zAO (zAj n) 8++zAO (zBb n) 8))).box) [] rfl rfl
theorem zWi (n:Nw) (c:Int×Int) (x0 x1 x2 x3 x4 x5 x6 x7 x8 x9 x10 x11 x12 x13:Int×Int):FG 171 [zDR n [x0,x1,x2,x3,x4,x5,x6,x7,x8,x9,x10,x11,x12,x13],prV c] (.box (zCv n (.own 2 (([x0,x1,x2,x3,x4,x5,x6,x7,x8,x9,x10,x11,x12,x13]++[c]).map prV)) (mapM (n.l.map pr2)) (zAj n) (zBb n))):=by
 refine zAg Tryz.f171 ?_
 refine zAd 2<|zAa<|zAd 5<|zAa<|zAd 4<|zAc 1<|zAc 4<|zAc 1<|zAc 1<|zAc 3<|zAa<|zAd 1<|zAc 1<|zAc 4<|zAc 1<|zAa<|zAd 1<|zAc 1<|zAc 5<|zAa<|zAd 1<|zAa<|zAm<|E_a [] an ((PV.agg (I n.h::prs n.l::PV.sl (List.map ntV n.n)::PV.sl (List.map zAB n.s)::PV.own 2 [PV.agg [I x0.fst,I x0.snd],PV.agg [I x1.fst,I x1.snd],PV.agg [I x2.fst,I x2.snd],PV.agg [I x3.fst,I x3.snd],PV.agg [I x4.fst,I x4.snd],PV.agg [I x5.fst,I x5.snd],PV.agg [I x6.fst,I x6.snd],PV.agg [I x7.fst,I x7.snd],PV.agg [I x8.fst,I x8.snd],PV.agg [I x9.fst,I x9.snd],PV.agg [I x10.fst,I x10.snd],PV.agg [I x11.fst,I x11.snd],PV.agg [I x12.fst,I x12.snd],PV.agg [I x13.fst,I x13.snd],PV.agg [I c.fst,I c.snd]]::PV.map (List.map zBy (List.map pr2 n.l))::(zAO (zAj n) 8++zAO (zBb n) 8))).box) [] rfl rfl
theorem zWj (n:Nw) (c:Int×Int) (x0 x1 x2 x3 x4 x5 x6 x7 x8 x9 x10 x11 x12 x13 x14:Int×Int):FG 171 [zDR n [x0,x1,x2,x3,x4,x5,x6,x7,x8,x9,x10,x11,x12,x13,x14],prV c] (.box (zCv n (.own 2 (([x0,x1,x2,x3,x4,x5,x6,x7,x8,x9,x10,x11,x12,x13,x14]++[c]).map prV)) (mapM (n.l.map pr2)) (zAj n) (zBb n))):=by
 refine zAg Tryz.f171 ?_
 refine zAd 2<|zAa<|zAd 5<|zAa<|zAd 4<|zAc 1<|zAc 4<|zAc 1<|zAc 1<|zAc 3<|zAa<|zAd 1<|zAc 1<|zAc 4<|zAc 1<|zAa<|zAd 1<|zAc 1<|zAc 5<|zAa<|zAd 1<|zAa<|zAm<|E_a [] an ((PV.agg (I n.h::prs n.l::PV.sl (List.map ntV n.n)::PV.sl (List.map zAB n.s)::PV.own 2 [PV.agg [I x0.fst,I x0.snd],PV.agg [I x1.fst,I x1.snd],PV.agg [I x2.fst,I x2.snd],PV.agg [I x3.fst,I x3.snd],PV.agg [I x4.fst,I x4.snd],PV.agg [I x5.fst,I x5.snd],PV.agg [I x6.fst,I x6.snd],PV.agg [I x7.fst,I x7.snd],PV.agg [I x8.fst,I x8.snd],PV.agg [I x9.fst,I x9.snd],PV.agg [I x10.fst,I x10.snd],PV.agg [I x11.fst,I x11.snd],PV.agg [I x12.fst,I x12.snd],PV.agg [I x13.fst,I x13.snd],PV.agg [I x14.fst,I x14.snd],PV.agg [I c.fst,I c.snd]]::PV.map (List.map zBy (List.map pr2 n.l))::(zAO (zAj n) 8++zAO (zBb n) 8))).box) [] rfl rfl
theorem zWS (n:Nw) (c:Int×Int) (x0 x1 x2 x3 x4 x5 x6 x7 x8 x9 x10 x11 x12 x13 x14 x15:Int×Int):FG 171 [zDR n [x0,x1,x2,x3,x4,x5,x6,x7,x8,x9,x10,x11,x12,x13,x14,x15],prV c] (.box (zCv n (.own 2 (([x0,x1,x2,x3,x4,x5,x6,x7,x8,x9,x10,x11,x12,x13,x14,x15]++[c]).map prV)) (mapM (n.l.map pr2)) (zAj n) (zBb n))):=by
 refine zAg Tryz.f171 ?_
 refine zAd 2<|zAa<|zAd 5<|zAa<|zAd 4<|zAc 1<|zAc 4<|zAc 1<|zAc 1<|zAc 3<|zAa<|zAd 1<|zAc 1<|zAc 4<|zAc 1<|zAa<|zAd 1<|zAc 1<|zAc 5<|zAa<|zAd 1<|zAa<|zAm<|E_a [] an ((PV.agg (I n.h::prs n.l::PV.sl (List.map ntV n.n)::PV.sl (List.map zAB n.s)::PV.own 2 [PV.agg [I x0.fst,I x0.snd],PV.agg [I x1.fst,I x1.snd],PV.agg [I x2.fst,I x2.snd],PV.agg [I x3.fst,I x3.snd],PV.agg [I x4.fst,I x4.snd],PV.agg [I x5.fst,I x5.snd],PV.agg [I x6.fst,I x6.snd],PV.agg [I x7.fst,I x7.snd],PV.agg [I x8.fst,I x8.snd],PV.agg [I x9.fst,I x9.snd],PV.agg [I x10.fst,I x10.snd],PV.agg [I x11.fst,I x11.snd],PV.agg [I x12.fst,I x12.snd],PV.agg [I x13.fst,I x13.snd],PV.agg [I x14.fst,I x14.snd],PV.agg [I x15.fst,I x15.snd],PV.agg [I c.fst,I c.snd]]::PV.map (List.map zBy (List.map pr2 n.l))::(zAO (zAj n) 8++zAO (zBb n) 8))).box) [] rfl rfl
theorem f171 (n:Nw) (cs:List (Int×Int)) (c:Int×Int) (hl:cs.length≤16):FG 171 [zDR n cs,prV c] (.box (zCv n (.own 2 ((cs++[c]).map prV)) (mapM (n.l.map pr2)) (zAj n) (zBb n))):=by
 match cs,hl with
 | [],_=>exact zX9 n c 
 | [x0],_=>exact zX8 n c x0
 | [x0,x1],_=>exact zXB n c x0 x1
 | [x0,x1,x2],_=>exact zYB n c x0 x1 x2
 | [x0,x1,x2,x3],_=>exact zXN n c x0 x1 x2 x3
 | [x0,x1,x2,x3,x4],_=>exact zXF n c x0 x1 x2 x3 x4
 | [x0,x1,x2,x3,x4,x5],_=>exact zXI n c x0 x1 x2 x3 x4 x5
 | [x0,x1,x2,x3,x4,x5,x6],_=>exact zYh n c x0 x1 x2 x3 x4 x5 x6
 | [x0,x1,x2,x3,x4,x5,x6,x7],_=>exact zXo n c x0 x1 x2 x3 x4 x5 x6 x7
 | [x0,x1,x2,x3,x4,x5,x6,x7,x8],_=>exact zXy n c x0 x1 x2 x3 x4 x5 x6 x7 x8
 | [x0,x1,x2,x3,x4,x5,x6,x7,x8,x9],_=>exact zWY n c x0 x1 x2 x3 x4 x5 x6 x7 x8 x9
 | [x0,x1,x2,x3,x4,x5,x6,x7,x8,x9,x10],_=>exact zWg n c x0 x1 x2 x3 x4 x5 x6 x7 x8 x9 x10
 | [x0,x1,x2,x3,x4,x5,x6,x7,x8,x9,x10,x11],_=>exact zWG n c x0 x1 x2 x3 x4 x5 x6 x7 x8 x9 x10 x11
 | [x0,x1,x2,x3,x4,x5,x6,x7,x8,x9,x10,x11,x12],_=>exact zW8 n c x0 x1 x2 x3 x4 x5 x6 x7 x8 x9 x10 x11 x12
 | [x0,x1,x2,x3,x4,x5,x6,x7,x8,x9,x10,x11,x12,x13],_=>exact zWi n c x0 x1 x2 x3 x4 x5 x6 x7 x8 x9 x10 x11 x12 x13
 | [x0,x1,x2,x3,x4,x5,x6,x7,x8,x9,x10,x11,x12,x13,x14],_=>exact zWj n c x0 x1 x2 x3 x4 x5 x6 x7 x8 x9 x10 x11 x12 x13 x14
 | [x0,x1,x2,x3,x4,x5,x6,x7,x8,x9,x10,x11,x12,x13,x14,x15],_=>exact zWS n c x0 x1 x2 x3 x4 x5 x6 x7 x8 x9 x10 x11 x12 x13 x14 x15
 | _::_::_::_::_::_::_::_::_::_::_::_::_::_::_::_::_::_,h=>simp at h
def zVX (n:Nw) (w:List Int) (g:Int×Int):Bool:=decide (w.getD (g.1.toNat*8+((zAj n).getD g.2.toNat 0).toNat) 0≠g.2)
def zIe (n:Nw) (w:List Int) (l:List (Int×Int)):List (Int×Int):=l.filter (zVX n w)
theorem zTu {n:Nw} {w:List Int} {l:List (Int×Int)} {i:Nat} (hi:i<l.length):zIe n w (l.take (i+1))=if zVX n w (l.getD i default)=true then zIe n w (l.take i)++[l.getD i default] else zIe n w (l.take i):=by
 unfold zIe;rw [zB9 (d:=default) hi,List.filter_append]
 split
 ·rw [List.filter_cons_of_pos (by assumption)];rfl
 ·rw [List.filter_cons_of_neg (by assumption)];simp
theorem f119 (n:Nw) (cs l:List (Int×Int)) (e:Int) (c:Int×Int) (ho:CrW n cs) (hl:cs.length≤16) (he:0≤e∧e≤1000) (w5:l.length≤1000) (hm:∀ g∈l,(0≤g.1∧g.1<n.h)∧(0≤g.2∧g.2<n.n.length)) (hc:(0≤c.1∧c.1<n.n.length)∧(0≤c.2∧c.2<n.s.length)):FG 119 [zDR n cs,prs l,I e,prV c] (.own 2 ((zIe n (zAY n (cs++[c]) e.toNat) l).map prV)):=by
 have hw:=zTn ho (by omega) hc
 have hb:=ho.nw.h
 have hn:=ho.nw
 have jo:=hn.nl
 have LA:=zB5 (n:=n) (cs:=cs++[c]) e.toNat
 have ha:=f92 n (cs++[c]) e hw he
 generalize zAY n (cs++[c]) e.toNat=w at *
 refine zAg Tryz.f119 ?_
 refine zAd 2<|zAa<|zAd 2<|S_a [(7,.ret ((zCv n (PV.own 2 (List.map prV (cs++[c]))) (mapM (List.map pr2 n.l)) (zAj n) (zBb n)).box) [])] (ap (f171 n cs c (by omega)) an)<|zAc 1<|S_a [(7,.v (PV.agg (I n.h::prs n.l::PV.sl (List.map ntV n.n)::PV.sl (List.map zAB n.s)::prs (cs++[c])::PV.map (List.map zBy (List.map pr2 n.l))::(zAO (zAj n) 8++zAO (zBb n) 8)))),(4,.ret (hdV w) [])] (ap ((by simp only [show zAE (List.map prV (cs++[c]))=List.map prV (cs++[c]) from (by first | exact zBQ _ | exact zC6 _ | exact zCp _ | exact zCY (zC6 _) | exact zCY (zCp _) | exact zKx (by simp [zEM]) (zBQ _))]):PV.agg (I n.h::prs n.l::PV.sl (List.map ntV n.n)::PV.sl (List.map zAB n.s)::PV.sl (zAE (List.map prV (cs++[c])))::PV.map (List.map zBy (List.map pr2 n.l))::(zAO (zAj n) 8++zAO (zBb n) 8))=PV.agg (I n.h::prs n.l::PV.sl (List.map ntV n.n)::PV.sl (List.map zAB n.s)::prs (cs++[c])::PV.map (List.map zBy (List.map pr2 n.l))::(zAO (zAj n) 8++zAO (zBb n) 8)))<|ap ha an)<|zAc 2<|zAa<|zAd 1<|zAa<|zAf<|zAd 1<|S_a [(0,.n l.length)] (ap (lnS prV l) an)<|zAc 1<|zAa<|zAi 0 ?_
 refine zAq (fun (i,q)=>i≤l.length∧q=zIe n w (l.take i)) (fun (i,q)=>[(10,.own 2 (q.map prV)),(20,I (i:Nat))]) (fun (i,_)=>l.length-i) ((0:Nat),([]:List (Int×Int))) ⟨by omega,by simp [zIe]⟩ fun (i,q) ⟨hi,hq⟩=>?_
 have uf:q.length≤i:=by
  rw [hq,zIe];exact Nat.le_trans (List.length_filter_le _ _) (by rw [List.length_take];omega)
 by_cases yH:i<l.length
 ·have jI:=zTu (n:=n) (w:=w) yH
  rw [← hq] at jI
  obtain ⟨kQ,qG⟩:=zBB (d:=default) hm i yH
  have gX:=zBX hn (l.getD i default).2.toNat (by omega)
  clear hm ha hq
  refine zAd 1<|zAa<|zAf<|zAI ((↑i:Int)<(↑l.length:Int)) (by omega)<|zAk<|zAf<|zAi 1<|zAf<|zAe<|S_a [(2,.v (PV.agg [I (l.getD i default).fst,I (l.getD i default).snd]))] (ap (zBv default (by omega):(List.map prV l)[i]? = some (PV.agg [I (l.getD i default).fst,I (l.getD i default).snd])) an)<|zAc 3<|zAa<|zAd 7<|S_a [(0,.ob),(1,.ob),(0,.v ((I ((zAj n).getD (l.getD i default).snd.toNat 0)).ref))] (ap ((by exact zAp (by omega)):decide (0≤(l.getD i default).snd)=true)<|ap ((by exact zAp (by omega)):decide ((l.getD i default).snd.toNat<8)=true)<|ap (zEc (F:=zAj n) (m:=8) (j:=(l.getD i default).snd.toNat) (by omega):zBK (PV.agg (zAO (zAj n) 8)).ref ((l.getD i default).snd.toNat*(fun x=>x.size) Tryz.prog.types[3]) none=some (I ((zAj n).getD (l.getD i default).snd.toNat 0)).ref) an)<|zAc 1<|S_a [(0,.ob),(1,.ob)] (ap ((by exact zAp (by omega)):decide (0≤(l.getD i default).fst)=true)<|ap ((by exact zAp (by omega)):decide ((l.getD i default).fst.toNat<10)=true) an)<|S_a [(0,.ob),(1,.ob)] (ap ((by exact zAp (by omega)):decide (0≤(zAj n).getD (l.getD i default).snd.toNat 0)=true)<|ap ((by exact zAp (by omega)):decide (((zAj n).getD (l.getD i default).snd.toNat 0).toNat<8)=true) an)<|S_a [(0,.cs true ([I (w.getD ((l.getD i default).fst.toNat*8+((zAj n).getD (l.getD i default).snd.toNat 0).toNat) 0)]))] (ap (zC9 (q:=(PV.agg (zAO w 80)).box) (xs:=[PV.agg (zAO w 80)]) (x:=PV.agg (zAO w 80)) rfl rfl (zDW (F:=w) (m:=80) (j:=(l.getD i default).fst.toNat*8+((zAj n).getD (l.getD i default).snd.toNat 0).toNat) (by first | rfl | exact zBM (by kernel_rfl) | exact zBN (by kernel_rfl) | exact zC5 (by kernel_rfl) (by kernel_rfl) | exact zC7 (by kernel_rfl) | exact zDo (by kernel_rfl) (by kernel_rfl) | exact zC1 (by kernel_rfl) | (simp;done)) (by omega)):zAs 9 (PV.agg (zAO w 80)).box [] 0 (0+(l.getD i default).fst.toNat*(fun x=>x.size) Tryz.prog.types[128]+((zAj n).getD (l.getD i default).snd.toNat 0).toNat*(fun x=>x.size) Tryz.prog.types[3]) 1=some (true,[I (w.getD ((l.getD i default).fst.toNat*8+((zAj n).getD (l.getD i default).snd.toNat 0).toNat) 0)])) an)<|zAc 3<|zAa<|zDc (w.getD ((l.getD i default).fst.toNat*8+((zAj n).getD (l.getD i default).snd.toNat 0).toNat) 0=(l.getD i default).snd) (fun k0=>(zAe<|zAc 3<|S_a [(4,.ob),(0,.ob),(0,.yes),(2,.v (PV.own 2 (List.map prV (q++[l.getD i default]))))] (ap (blz (List.map prV q))<|ap ((by exact zBz (by simp only [List.length_map,zzLn,zA5]<;>omega)):((List.map prV q).length + [PV.agg [I (l.getD i default).fst,I (l.getD i default).snd]].length).ble zA5=true)<|ap ((by exact zBO (by simp<;>omega)):(0+(List.map prV q).length).beq (List.map prV q).length=true)<|ap ((zA3 (zDG (by kernel_rfl))):PV.own 2 (List.map prV q++[PV.agg [I (l.getD i default).fst,I (l.getD i default).snd]])=PV.own 2 (List.map prV (q++[l.getD i default]))) an)<|zAc 1<|zAa<|zAe<|S_a [(1,.v (I (↑(i+1):Int)))] (ap (wrN i) an)<|zAc 1<|zAa ?_)) (fun k0=>(zAk<|zAe<|S_a [(1,.v (I (↑(i+1):Int)))] (ap (wrN i) an)<|zAc 1<|zAa ?_))
  ·have hb:zVX n w (l.getD i default)=true:=by simp only [zVX,decide_eq_true_eq];exact k0
   rw [if_pos hb] at jI
   exact ⟨(i+1,q++[l.getD i default]),⟨by omega,jI.symm⟩,by simp only;omega,by kernel_rfl,by kernel_rfl⟩
  ·have hb:zVX n w (l.getD i default)=false:=by simp only [zVX,decide_eq_false_iff_not];exact fun h=>h k0
   rw [if_neg (by rw [hb];simp)] at jI
   exact ⟨(i+1,q),⟨by omega,jI.symm⟩,by simp only;omega,by kernel_rfl,by kernel_rfl⟩
 ·refine zAd 1<|zAa<|zAf<|zAQ ((↑i:Int)<(↑l.length:Int)) (by omega)<|zAA 0<|zAd 1<|S_a [(2,.yes)] (ap ((by exact zBO (by simp<;>omega)):(Nat.beq 0 0&&(List.map prV q).length.beq (List.map prV q).length)=true) an)<|zAa<|zAm<|E_a [(1,.yes),(1,.v (PV.own 2 (List.map prV q)))] (ap (blz (List.map prV q))<|ap ((zA3 zAW):PV.own 2 (List.take (List.map prV q).length (List.drop 0 (List.map prV q)))=PV.own 2 (List.map prV q)) an) (PV.own 2 (List.map prV q)) [] ?_ rfl
  rw [List.take_of_length_le (by omega)] at hq
  rw [hq]
end Go.Eng
set_option maxRecDepth 10000
set_option maxHeartbeats 4000000
namespace Go.Eng
open Go Go.Proofs
theorem zTl {α:Type} (φ:α→Bool) (l:List α):(zEO φ l = -1→l.filter (fun x => !φ x)=l)∧(zEO φ l≠-1→∃ i:Nat,zEO φ l=i∧i<l.length∧l.take i=(l.take (i+1)).filter (fun x => !φ x)):=by
 constructor
 ·intro h
  have:l.any φ=false:=by rw [← zEf,h];rfl
  rw [List.filter_eq_self]
  intro x hx
  rw [List.any_eq_false] at this
  simpa using this x hx
 ·intro h
  unfold zEO at h ⊢
  split
  ·rename_i yI
   refine ⟨_,rfl,yI,?_⟩
   have hp:=List.findIdx_getElem (w:=yI)
   rw [List.take_add_one,List.getElem?_eq_getElem yI,List.filter_append]
   simp only [Option.toList,List.filter_cons,hp,Bool.not_true,Bool.false_eq_true,if_false,List.filter_nil,List.append_nil]
   symm
   rw [List.filter_eq_self]
   intro x hx
   obtain ⟨j,hj,rfl⟩:=List.mem_take_iff_getElem.1 hx
   have:=List.not_of_lt_findIdx (show j<l.findIdx φ by omega)
   simpa using this
  ·rename_i hn;rw [if_neg hn] at h;exact absurd rfl h
theorem zLy {α:Type} {S:List α} {p:Nat} {x:α} (h:p<S.length):(S.set p x).take (p+1)=S.take p++[x]:=by
 rw [zB9 (d:=x) (by simpa using h),List.take_set_of_le (Nat.le_refl p)]
 simp [List.getD_eq_getElem?_getD,h]
theorem zNt {α:Type} {S:List α} {i j:Nat} {x d:α} (h:i≠j):(S.set i x).getD j d=S.getD j d:=by
 simp [List.getD_eq_getElem?_getD,List.getElem?_set,h]
theorem zNV {α:Type} (p:α→Bool) (l:List α) (j:Nat) (d:α) (h:j<l.length):(l.take (j+1)).filter p=if p (l.getD j d)=true then (l.take j).filter p++[l.getD j d] else (l.take j).filter p:=by
 rw [zB9 (d:=d) h,List.filter_append]
 split
 ·rw [List.filter_cons_of_pos (by assumption)];rfl
 ·rw [List.filter_cons_of_neg (by assumption)];simp
theorem f189 (n:Nw) (cs:List (Int×Int)) (f:Int) (ho:NwOk n) (g:Int×Int) (hg:0≤g.2∧g.2<n.n.length):FG 189 [prV g,.ref (zDR n cs),.ref (I f)] (.bool (decide ((zAj n).getD g.2.toNat 0≠f))):=by
 have jo:=ho.nl
 refine zAg Tryz.f189 ?_
 refine zAd 2<|zAa<|zAd 5<|S_a [(0,.ob),(1,.ob),(0,.v ((I ((zAj n).getD g.snd.toNat 0)).ref))] (ap ((by exact zAp (by omega)):decide (0≤g.snd)=true)<|ap ((by exact zAp (by omega)):decide (g.snd.toNat<8)=true)<|ap (zEc (F:=zAj n) (m:=8) (j:=g.snd.toNat) (by omega):zBK (PV.agg (zAO (zAj n) 8)).ref (g.snd.toNat*(fun x=>x.size) Tryz.prog.types[3]) none=some (I ((zAj n).getD g.snd.toNat 0)).ref) an)<|zAc 4<|zAa<|zAm<|E_a [] an (PV.bool ((zAj n).getD g.snd.toNat 0 != f)) [] ?_ rfl
 congr 1;rw [Bool.eq_iff_iff];simp
theorem f174_1 (n:Nw) (cs:List (Int×Int)) (f:Int) (ho:NwOk n) (l:List (Int×Int)) (hl:l.length<4294967296) (hr:∀ x∈l,(fun z:Int×Int=>0≤z.2∧z.2<n.n.length) x):FG 174 [.sl (l.map prV),.func 189 [] [.ref (zDR n cs),.ref (I f)]] (I (zEO (fun x=>decide ((zAj n).getD x.2.toNat 0≠f)) l)):=by
 refine zAg Tryz.f174 ?_
 refine zAd 1<|zAa<|zAf<|zAd 1<|S_a [(0,.n l.length)] (ap (lnS prV l) an)<|zAc 1<|zAa<|zAi 0 ?_
 refine zAq (fun i=>i≤l.length∧∀ j,j<i→(fun x=>decide ((zAj n).getD x.2.toNat 0≠f)) (l.getD j default)=false) (fun i=>[(8,I (i:Nat))]) (fun i=>l.length-i) (0:Nat) (by simp) fun i ⟨hi,ha⟩=>?_
 by_cases yH:i<l.length
 ·have gy:=zBB (d:=default) hr i yH
  refine zAd 1<|zAa<|zAf<|zAI ((↑i:Int)<(↑l.length:Int)) (by omega)<|zAk<|zAf<|zAi 1<|zAd 2<|zAa<|zAd 3<|S_a [(2,.v (PV.agg [I (l.getD i default).fst,I (l.getD i default).snd]))] (ap (zBv default (by omega):(List.map prV l)[i]? = some (PV.agg [I (l.getD i default).fst,I (l.getD i default).snd])) an)<|zAc 1<|S_a [(8,.ret (PV.bool (decide ((zAj n).getD (l.getD i default).snd.toNat 0≠f))) [])] (ap (f189 n cs f (by omega) (l.getD i default) (by omega)) an)<|zAa<|zCd ((zAj n).getD (l.getD i default).snd.toNat 0≠f) (fun k0=>(zAd 2<|zAa<|zAm<|E_a [] an (I (↑i:Int)) [] ?_ rfl)) (fun k0=>(zAk<|zAe<|S_a [(1,.v (I (↑(i+1):Int)))] (ap (wrN i) an)<|zAc 1<|zAa ?_))
  ·rw [zB0 (i:=i) yH (fun j hj=>by rw [← zAt (d:=default)];exact ha j hj) (by rw [← zAt (d:=default)];first | assumption | exact decide_eq_true ‹_›)]
  ·refine ⟨i+1,⟨by omega,fun j hj=>?_⟩,by omega,by kernel_rfl,by kernel_rfl⟩
   rcases Nat.lt_succ_iff_lt_or_eq.1 hj with h | rfl
   ·exact ha j h
   ·first | assumption | exact decide_eq_false ‹_› | (simp only [Bool.not_eq_false',decide_eq_true_eq];assumption)
 ·refine zAd 1<|zAa<|zAf<|zAQ ((↑i:Int)<(↑l.length:Int)) (by omega)<|zAA 0<|zAd 1<|zAa<|zAm<|E_a [] an (I (-1)) [] ?_ rfl
  rw [zCl fun j hj=>by rw [← zAt (d:=default)];exact ha j (by omega)]
theorem f122_1 (n:Nw) (cs:List (Int×Int)) (f:Int) (ho:NwOk n) (l:List (Int×Int)) (hl:l.length<4294967296) (hr:∀ x∈l,(fun z:Int×Int=>0≤z.2∧z.2<n.n.length) x):FG 122 [.own 2 (l.map prV),.func 189 [] [.ref (zDR n cs),.ref (I f)]] (.own 2 ((l.filter fun x => !(decide ((zAj n).getD x.2.toNat 0≠f))).map prV)):=by
 have h1:=zTl (fun x=>decide ((zAj n).getD x.2.toNat 0≠f)) l
 have uI:=f174_1 n cs f ho l hl hr
 by_cases hm:zEO (fun x=>decide ((zAj n).getD x.2.toNat 0≠f)) l = -1
 ·rw [hm] at uI
  rw [h1.1 hm]
  refine zAg Tryz.f122 ?_
  refine zAd 1<|zAa<|zAd 2<|S_a [(3,.ob),(0,.v (prs l)),(3,.ret (I (-1)) [])] (ap (blz (List.map prV l))<|ap (frT prV l)<|ap uI an)<|zAc 1<|zAa<|zAf<|zAd 2<|zAa<|zA8<|zAd 1<|S_a [(2,.yes)] (ap ((by exact zBO (by simp<;>omega)):(Nat.beq 0 0&&(List.map prV l).length.beq (List.map prV l).length)=true) an)<|zAa<|zAm<|E_a [(1,.yes),(1,.v (PV.own 2 (List.map prV l)))] (ap (blz (List.map prV l))<|ap ((zA3 zAW):PV.own 2 (List.take (List.map prV l).length (List.drop 0 (List.map prV l)))=PV.own 2 (List.map prV l)) an) (PV.own 2 (List.map prV l)) [] rfl rfl
 ·obtain ⟨i0,j5,hil0,hf0⟩:=h1.2 hm
  rw [j5] at uI
  clear h1 hm
  refine zAg Tryz.f122 ?_
  refine zAd 1<|zAa<|zAd 2<|S_a [(3,.ob),(0,.v (prs l)),(3,.ret (I (↑i0:Int)) [])] (ap (blz (List.map prV l))<|ap (frT prV l)<|ap uI an)<|zAc 1<|zAa<|zAf<|zAd 2<|zAa<|zAw<|zAk<|zAf<|zAd 1<|S_a [(1,.v (I (↑(i0+1):Int)))] (ap (wrN i0) an)<|zAc 1<|zAa<|zAi 0 ?_
  refine zAq (fun (i,j,S)=>j≤l.length∧i<j∧S.length=l.length∧S.take i=(l.take j).filter (fun x => !(decide ((zAj n).getD x.2.toNat 0≠f)))∧∀ r,j≤r→S.getD r default=l.getD r default) (fun (i,j,S)=>[(0,.own 2 (S.map prV)),(5,I (i:Nat)),(6,I (j:Nat))]) (fun (_,j,_)=>l.length-j) (i0,i0+1,l) ⟨by omega,by omega,rfl,hf0,fun _ _=>rfl⟩ fun (i,j,S) ⟨hj,ql,hS,ht,hd⟩=>?_
  by_cases je:j<l.length
  ·have gy:=zBB (d:=default) hr j je
   have hx:=hd j (Nat.le_refl j)
   have yK:=zNV (fun x => !(decide ((zAj n).getD x.2.toNat 0≠f))) l j default je
   rw [← hx] at yK gy
   clear uI
   have gN:=hd
   clear hd hx
   refine zAf<|zAd 2<|S_a [(0,.n S.length)] (ap (lnS prV S) an)<|zAc 1<|zAa<|zAI ((↑j:Int)<(↑S.length:Int)) (by omega)<|zAk<|zAf<|zAi 1<|zAd 2<|S_a [(2,.ob),(1,.n j)] (ap ((by exact zAp (by simp only [List.length_map,zzLn]<;>omega)):decide (j<(List.map prV S).length)=true)<|ap ((by simp):some (0+j)=some j) an)<|S_a [(0,.cs true ([I (S.getD j default).fst,I (S.getD j default).snd]))] (ap (zC9 (q:=PV.own 2 (List.map prV S)) (xs:=List.map prV S) (x:=PV.agg [I (S.getD j default).fst,I (S.getD j default).snd]) rfl (zBv default (by omega)):zAs 0 (PV.own 2 (List.map prV S)) [] j 0 Tryz.prog.types[108].size=some (true,[I (S.getD j default).fst,I (S.getD j default).snd])) an)<|zAc 2<|zAa<|zAd 2<|S_a [(8,.ret (PV.bool (decide ((zAj n).getD (S.getD j default).snd.toNat 0≠f))) [])] (ap (f189 n cs f (by omega) (S.getD j default) (by omega)) an)<|zAc 1<|zAa<|zDc ((zAj n).getD (S.getD j default).snd.toNat 0≠f) (fun k0=>(zAd 3<|S_a [(2,.ob),(1,.n i)] (ap ((by exact zAp (by simp only [List.length_map,zzLn]<;>omega)):decide (i<(List.map prV S).length)=true)<|ap ((by simp):some (0+i)=some i) an)<|S_a [(8,.root (PV.own 2 (List.map prV (S.set i (S.getD j default)))) true)] (ap (zPn (zBv default (by omega)) zFV:zBx (PV.own 2 (List.map prV S)) [] i 0 (PV.agg [I (S.getD j default).fst,I (S.getD j default).snd]).cells=some (PV.own 2 (List.map prV (S.set i (S.getD j default))))∧zAF (PV.own 2 (List.map prV S)) (PV.own 2 (List.map prV (S.set i (S.getD j default)))) []=true) an)<|zAa<|zAe<|zAc 1<|S_a [(1,.v (I (↑(i+1):Int)))] (ap (wrN i) an)<|zAc 1<|zAa<|zAe<|zAc 1<|S_a [(1,.v (I (↑(j+1):Int)))] (ap (wrN j) an)<|zAc 1<|zAa ?_)) (fun k0=>(zAk<|zAe<|zAc 1<|S_a [(1,.v (I (↑(j+1):Int)))] (ap (wrN j) an)<|zAc 1<|zAa ?_))
   ·have hb:((fun x => !(decide ((zAj n).getD x.2.toNat 0≠f))) (S.getD j default))=true:=by first | assumption | (simp only [Bool.not_eq_true',decide_eq_false_iff_not];assumption)
    rw [if_pos hb] at yK
    refine ⟨(i+1,j+1,S.set i (S.getD j default)),⟨by omega,by omega,by simpa using hS,?_,fun r qn=>?_⟩,by simp only;omega,by kernel_rfl,by kernel_rfl⟩
    ·rw [yK,← ht,zLy (by omega)]
    ·rw [zNt (by omega)];exact gN r (by omega)
   ·have hb:((fun x => !(decide ((zAj n).getD x.2.toNat 0≠f))) (S.getD j default))=false:=by first | assumption | (simp only [Bool.not_eq_false',decide_eq_true_eq];assumption)
    rw [if_neg (fun h=>Bool.noConfusion (hb.symm.trans h))] at yK
    exact ⟨(i,j+1,S),⟨by omega,by omega,hS,by rw [yK,ht],fun r qn=>gN r (by omega)⟩,by simp only;omega,by kernel_rfl,by kernel_rfl⟩
  ·refine zAf<|zAd 2<|S_a [(0,.n S.length)] (ap (lnS prV S) an)<|zAc 1<|zAa<|zAQ ((↑j:Int)<(↑S.length:Int)) (by omega)<|zAA 0<|zAd 2<|S_a [(3,.ob),(0,.yes),(0,.yes),(0,.v (PV.bor 0 [] 2 i (S.length-i)))] (ap ((by exact zBz (by simp only [List.length_map,zzLn,zA5]<;>omega)):i.ble (List.map prV S).length=true)<|ap ((by exact zBz (by simp only [List.length_map,zzLn,zA5]<;>omega)):(List.map prV S).length.ble (List.map prV S).length=true)<|ap ((by simp<;>omega):(i.beq 0||i.blt (List.map prV S).length)=true)<|ap ((by simp):PV.bor 0 [] 2 (0+i) ((List.map prV S).length-i)=PV.bor 0 [] 2 i (S.length-i)) an)<|zQe (g:=prV) (fun q=>q) 0 2 i (S.length-i) S ((0,0)) (by first | omega | (simp<;>omega)) ⟨rfl,rfl⟩ (fun _=>(by first | exact zF3 | exact ⟨rfl,rfl,rfl,rfl,Nat.le_refl _,rfl⟩)) zNr.nil (zAa<|zAd 2<|S_a [(4,.yes)] (ap ((by exact zBz (by simp<;>omega)):i.ble (List.map prV (List.take i S++List.replicate (S.length-i) (0,0)++List.drop (i+(S.length-i)) S)).length=true) an)<|zAc 1<|zAa<|zAm<|E_a [(1,.yes),(1,.v (PV.own 2 (List.map prV (List.take i (List.take i S++List.replicate (S.length-i) (0,0)++List.drop (i+(S.length-i)) S)))))] (ap ((by exact zBz (by simp<;>omega)):(0+((↑i:Int).toNat-0)).ble (List.map prV (List.take i S++List.replicate (S.length-i) (0,0)++List.drop (i+(S.length-i)) S)).length=true)<|ap ((by simp):PV.own 2 (List.take i (List.drop 0 (List.map prV (List.take i S++List.replicate (S.length-i) (0,0)++List.drop (i+(S.length-i)) S))))=PV.own 2 (List.map prV (List.take i (List.take i S++List.replicate (S.length-i) (0,0)++List.drop (i+(S.length-i)) S)))) an) (PV.own 2 (List.map prV (List.take i (List.take i S++List.replicate (S.length-i) (0,0)++List.drop (i+(S.length-i)) S)))) [] ?_ rfl)
   rw [List.take_of_length_le (Nat.le_of_not_lt je)] at ht
   rw [← ht,List.append_assoc,List.take_append_of_le_length (by rw [List.length_take];omega),List.take_take,Nat.min_self]
def ofL (n:Nw) (f:Int) (l:List (Int×Int)):List (Int×Int):=l.filter fun x => !decide ((zAj n).getD x.2.toNat 0≠f)
theorem f135 (n:Nw) (cs l:List (Int×Int)) (f:Int) (ho:NwOk n) (hl:l.length≤1000) (hr:∀ g∈l,(0≤g.1∧g.1<n.h)∧(0≤g.2∧g.2<n.n.length)):FG 135 [zDR n cs,prs l,I f] (.own 2 ((ofL n f l).map prV)):=by
 have h1:=f122_1 n cs f ho l (by omega) fun x hx=>(hr x hx).2
 refine zAg Tryz.f135 ?_
 refine zAd 3<|zAa<|zAd 1<|S_a [(6,.ret (PV.own 2 (List.map prV l)) [])] (ap (f123 l (by omega)) an)<|zAc 1<|S_a [(3,.ob),(1,.v (PV.own 2 (List.map prV l))),(14,.ret (PV.own 2 (List.map prV (List.filter (fun x => !decide ((zAj n).getD x.snd.toNat 0≠f)) l))) []),(1,.yes)] (ap ((by exact zBz (by simp only [List.length_map,zzLn,zA5]<;>omega)):(List.map prV l).length.ble (List.map prV l).length=true)<|ap ((zA3 zAW):PV.own 2 (List.take (List.map prV l).length (List.drop 0 (List.map prV l)))=PV.own 2 (List.map prV l))<|ap h1<|ap ((by exact zLW _):(PV.own 2 (List.map prV (List.filter (fun x => !decide ((zAj n).getD x.snd.toNat 0≠f)) l))).free=true) an)<|zAc 1<|zAa<|zAm<|E_a [(1,.yes),(1,.v (PV.own 2 (List.map prV (List.filter (fun x => !decide ((zAj n).getD x.snd.toNat 0≠f)) l))))] (ap (blz (List.map prV (List.filter (fun x => !decide ((zAj n).getD x.snd.toNat 0≠f)) l)))<|ap ((zA3 zAW):PV.own 2 (List.take (List.map prV (List.filter (fun x => !decide ((zAj n).getD x.snd.toNat 0≠f)) l)).length (List.drop 0 (List.map prV (List.filter (fun x => !decide ((zAj n).getD x.snd.toNat 0≠f)) l))))=PV.own 2 (List.map prV (List.filter (fun x => !decide ((zAj n).getD x.snd.toNat 0≠f)) l))) an) (PV.own 2 (List.map prV (List.filter (fun x => !decide ((zAj n).getD x.snd.toNat 0≠f)) l))) [] rfl rfl
end Go.Eng
set_option maxRecDepth 10000
set_option maxHeartbeats 4000000
namespace Go.Eng
open Go Go.Proofs
def zWr (n:Nw) (cs:List (Int×Int)) (e:Int) (st:List Int):Int:=if zSi n cs e=0 then if (!st.all fun x=>inB x 0 (n.s.length-1))=true then 1 else if st.Nodup then 0 else 5 else zSi n cs e
structure OffOk (n:Nw) (cs:List (Int×Int)) (e:Int) (st:List Int):Prop where
 err:zWr n cs e st=0
 ev:EvOk n cs e
 rng:∀ s∈st,0≤s∧s<n.s.length
 nd:st.Nodup
abbrev zXG (n:Nw) (cs:List (Int×Int)) (e:Int) (l:List (Int×Int)):PV := .func 173 [] [.ref (zDR n cs),.ref (prs l),.ref (I e)]
theorem f168_2 (n:Nw) (hb:n.s.length≤6) (x:Int):FG 168 [I x,.ref (.func 170 [nwV n] [])] (.bool (!(inB x 0 (n.s.length-1)))):=by
 refine zAg Tryz.f168 ?_
 refine zAd 1<|zAa<|zAd 2<|S_a [(8,.ret (PV.bool (inB x 0 ((↑n.s.length:Int)-1))) [])] (ap (f170 n x (by omega)) an)<|zAc 2<|zAa<|zAm<|E_a [] an (PV.bool !inB x 0 ((↑n.s.length:Int)-1)) [] rfl rfl
theorem f131_2 (n:Nw) (hb:n.s.length≤6) (l:List (Int)) (hl:l.length<4294967296):FG 131 [.sl (l.map I),.func 168 [] [.ref (.func 170 [nwV n] [])]] (I (zEO (fun x => !(inB x 0 (n.s.length-1))) l)):=by
 refine zAg Tryz.f131 ?_
 refine zAd 1<|zAa<|zAf<|zAd 1<|S_a [(0,.n l.length)] (ap (lnS I l) an)<|zAc 1<|zAa<|zAi 0 ?_
 refine zAq (fun i=>i≤l.length∧∀ j,j<i→(fun x => !(inB x 0 (n.s.length-1))) (l.getD j 0)=false) (fun i=>[(8,I (i:Nat))]) (fun i=>l.length-i) (0:Nat) (by simp) fun i ⟨hi,ha⟩=>?_
 refine zAd 1<|zAa<|zAf<|zCd ((↑i:Int)<(↑l.length:Int)) (fun k0=>(zAk<|zAf<|zAi 1<|zAd 2<|zAa<|zAd 3<|S_a [(2,.v (I (l.getD i 0)))] (ap (zBv (0) (by omega):(List.map I l)[i]? = some (I (l.getD i 0))) an)<|zAc 1<|S_a [(7,.ret (PV.bool !inB (l.getD i 0) 0 ((↑n.s.length:Int)-1)) [])] (ap (f168_2 n (by omega) (l.getD i 0)) an)<|zAa<|zDt (!inB (l.getD i 0) 0 ((↑n.s.length:Int)-1)) (fun k1=>(zAd 2<|zAa<|zAm<|E_a [] an (I (↑i:Int)) [] ?_ rfl)) (fun k1=>(zAk<|zAe<|S_a [(1,.v (I (↑(i+1):Int)))] (ap (wrN i) an)<|zAc 1<|zAa ?_)))) (fun k0=>(zAA 0<|zAd 1<|zAa<|zAm<|E_a [] an (I (-1)) [] ?_ rfl))
 ·rw [zB0 (i:=i) (by omega) (fun j hj=>by rw [← zAt (d:=0)];exact ha j hj) (by rw [← zAt (d:=0)];first | assumption | exact decide_eq_true ‹_› | (simp only [Bool.not_eq_true',decide_eq_false_iff_not];assumption))]
 ·refine ⟨i+1,⟨by omega,fun j hj=>?_⟩,by omega,by kernel_rfl,by kernel_rfl⟩
  rcases Nat.lt_succ_iff_lt_or_eq.1 hj with h | rfl
  ·exact ha j h
  ·first | assumption | exact decide_eq_false ‹_› | (simp only [Bool.not_eq_false',decide_eq_true_eq];first | assumption | (apply Decidable.of_not_not;assumption))
 ·rw [zCl fun j hj=>by rw [← zAt (d:=0)];exact ha j (by omega)]
theorem f52_2 (n:Nw) (hb:n.s.length≤6) (l:List (Int)) (hl:l.length<4294967296):FG 52 [.sl (l.map I),.func 168 [] [.ref (.func 170 [nwV n] [])]] (.bool (l.any (fun x => !(inB x 0 (n.s.length-1))))):=by
 refine zAg Tryz.f52 ?_
 refine zAd 1<|zAa<|zAd 2<|S_a [(7,.ret (I (zEO (fun x => !inB x 0 ((↑n.s.length:Int)-1)) l)) [])] (ap (f131_2 n (by omega) l (by omega)) an)<|zAc 2<|zAa<|zAm<|E_a [] an (PV.bool (decide (zEO (fun x => !inB x 0 ((↑n.s.length:Int)-1)) l≥0))) [] ?_ rfl
 rw [zEf]
theorem f108_2 (n:Nw) (hb:n.s.length≤6) (l:List (Int)) (hl:l.length<4294967296):FG 108 [.sl (l.map I),.func 170 [nwV n] []] (.bool (l.all (fun x=>inB x 0 (n.s.length-1)))):=by
 refine zAg Tryz.f108 ?_
 refine zAd 2<|zAa<|zAd 2<|S_a [(12,.ret (PV.bool (l.any fun x => !inB x 0 ((↑n.s.length:Int)-1))) [])] (ap (f52_2 n (by omega) l (by omega)) an)<|zAc 2<|zAa<|zAm<|E_a [] an (PV.bool !l.any fun x => !inB x 0 ((↑n.s.length:Int)-1)) [] ?_ rfl
 simp [List.not_any_eq_all_not]
theorem f121_1 (n:Nw) (cs:List (Int×Int)) (e:Int) (st:List Int) (ho:OffOk n cs e st) (yK:st.length<1000000):FG 121 [nwV n,prs cs,I e,zAB st] (.tup [zDR n cs,prs (zBW n (zAY n cs e.toNat)),.agg [zXG n cs e (zBW n (zAY n cs e.toNat))],I 0]):=by
 have uN:=ho.ev
 have kY:=uN.cr
 have uV:=kY.w
 have hn:=kY.nw
 have he:=uN.ev
 have hs6:=hn.sl.2
 have LA:=zB5 (n:=n) (cs:=cs) e.toNat
 have hgl:=zJL (w:=zAY n cs e.toNat) hn
 have hin:(!st.all fun x=>inB x 0 (n.s.length-1))=false:=by
  simp only [Bool.not_eq_false',List.all_eq_true]
  intro s hs;have:=ho.rng s hs
  simp only [inB,Bool.and_eq_true,decide_eq_true_eq];omega
 refine zAg Tryz.f121 ?_
 refine zAd 6<|zAa<|zAd 3<|S_a [(10,.ret (PV.tup [zDR n cs,I 0]) [])] (ap (f90_1 n cs e (by omega)) an)<|zAc 6<|zAa<|zAf<|zAi 0<|zAd 3<|zAa<|zAw<|zAd 3<|S_a [(7,.ret (PV.bool (st.all fun x=>inB x 0 ((↑n.s.length:Int)-1))) [])] (ap (f108_2 n (by omega) st (by omega)) an)<|zAc 2<|zAa<|zDt (!st.all fun x=>inB x 0 ((↑n.s.length:Int)-1)) (fun k0=>(zAd 5<|zAa<|zAm<|E_a [] an (PV.tup [PV.nilp,PV.sl [],PV.agg [PV.nilf],I 1]) [] ?_ rfl)) (fun k0=>(zAk<|zAf<|zAd 1<|S_a [(0,.n st.length)] (ap (lnS I st) an)<|zAc 1<|zAa<|zAi 1 ?_))
 ·rw [hin] at k0;cases k0
 ·refine zAq (fun i=>i≤st.length) (fun (i:Nat)=>[(38,I (i:Nat))]) (fun i=>st.length-i) (0:Nat) (by omega) fun i hi=>?_
  by_cases yH:i<st.length
  ·have jJ:has (st.take i) (st.getD i 0)=false:=by
    rw [zM3,decide_eq_false_iff_not]
    intro hm
    have yX:=ho.nd
    rw [← List.take_append_drop i st,List.nodup_append] at yX
    refine yX.2.2 _ hm _ ?_ rfl
    rw [List.drop_eq_getElem_cons yH,zAt yH];exact List.mem_cons_self
   refine zAd 1<|zAa<|zAf<|zAI ((↑i:Int)<(↑st.length:Int)) (by omega)<|zAk<|zAf<|zAi 2<|zAd 1<|S_a [(2,.v (I (st.getD i 0)))] (ap (zBv (0) (by omega):(List.map I st)[i]? = some (I (st.getD i 0))) an)<|zAc 3<|zAa<|zAd 2<|S_a [(3,.ob),(0,.ob),(0,.v (zAB (List.take i st)))] (ap ((by exact zBz (by simp only [List.length_map,zzLn,zA5]<;>omega)):i.ble (List.map I st).length=true)<|ap ((by exact all_map _):((List.map I st).all fun x=>x.cells.length.beq ((fun x=>x.size) Tryz.prog.types[3]))=true)<|ap ((by simp):PV.sl (List.take i (List.drop 0 (List.map I st)))=zAB (List.take i st)) an)<|zAc 1<|S_a [(8,.ret (PV.bool (has (List.take i st) (st.getD i 0))) [])] (ap (f58 (List.take i st) (st.getD i 0) (by first | omega | (simp<;>omega))) an)<|zAa<|zDt (has (List.take i st) (st.getD i 0)) (fun k1=>(zAd 5<|zAa<|zAm<|E_a [] an (PV.tup [PV.nilp,PV.sl [],PV.agg [PV.nilf],I 5]) [] ?_ rfl)) (fun k1=>(zAk<|zAe<|S_a [(1,.v (I (↑(i+1):Int)))] (ap (wrN i) an)<|zAc 1<|zAa ?_))
   ·rw [jJ] at k1;cases k1
   ·exact ⟨i+1,by omega,by omega,by kernel_rfl,by kernel_rfl⟩
  ·refine zAd 1<|zAa<|zAf<|zAQ ((↑i:Int)<(↑st.length:Int)) (by omega)<|zAA 1<|zAd 3<|S_a [(7,.ret (hdV (zAY n cs e.toNat)) [])] (ap (f92 n cs e (by omega) (by omega)) an)<|S_a [(7,.ret (PV.own 2 (List.map prV (zBW n (zAY n cs e.toNat)))) [])] (ap (f91 n cs (zAY n cs e.toNat) (by omega) (by omega)) an)<|zAc 1<|S_a [(3,.v (prs (zBW n (zAY n cs e.toNat))))] (ap ((zRZ (zBQ _)):PV.sl (zAE (List.map prV (zBW n (zAY n cs e.toNat))))=prs (zBW n (zAY n cs e.toNat))) an)<|zAa<|zAd 8<|zAa<|zAm<|E_a [] an (PV.tup [(PV.agg (I n.h::prs n.l::PV.sl (List.map ntV n.n)::PV.sl (List.map zAB n.s)::prs cs::PV.map (List.map zBy (List.map pr2 n.l))::(zAO (zAj n) 8++zAO (zBb n) 8))).ref,prs (zBW n (zAY n cs e.toNat)),PV.agg [PV.func 173 [] [(PV.agg (I n.h::prs n.l::PV.sl (List.map ntV n.n)::PV.sl (List.map zAB n.s)::prs cs::PV.map (List.map zBy (List.map pr2 n.l))::(zAO (zAj n) 8++zAO (zBb n) 8))).ref.ref,(prs (zBW n (zAY n cs e.toNat))).ref,(I e).ref]],I 0]) [] rfl rfl
theorem f173 (n:Nw) (cs l:List (Int×Int)) (e:Int) (c:Int×Int) (ho:CrW n cs) (hl:cs.length≤16) (he:0≤e∧e≤1000) (w5:l.length≤1000) (hm:∀ g∈l,(0≤g.1∧g.1<n.h)∧(0≤g.2∧g.2<n.n.length)) (hc:(0≤c.1∧c.1<n.n.length)∧(0≤c.2∧c.2<n.s.length)):FG 173 [prV c,.ref (zDR n cs),.ref (prs l),.ref (I e)] (.sl ((zIe n (zAY n (cs++[c]) e.toNat) l).map prV)):=by
 refine zAg Tryz.f173 ?_
 refine zAd 2<|zAa<|zAd 4<|S_a [(11,.ret (PV.own 2 (List.map prV (zIe n (zAY n (cs++[c]) e.toNat) l))) [])] (ap (f119 n cs l e c (by omega) (by omega) (by omega) (by omega) (by omega) (by omega)) an)<|zAc 1<|zAa<|zAm<|E_a [(1,.envv ([(4,(PV.agg [I c.fst,I c.snd]).box),(5,prs (zIe n (zAY n (cs++[c]) e.toNat) l))]) (prs (zIe n (zAY n (cs++[c]) e.toNat) l)))] (ap (And.intro (Eq.trans (by kernel_rfl:Env.frz [(4,(PV.agg [I c.fst,I c.snd]).box),(5,PV.own 2 (List.map prV (zIe n (zAY n (cs++[c]) e.toNat) l)))] 5 []=some [(4,(PV.agg [I c.fst,I c.snd]).box),(5,PV.sl (zAE (List.map prV (zIe n (zAY n (cs++[c]) e.toNat) l))))]) ((by simp only [show zAE (List.map prV (zIe n (zAY n (cs++[c]) e.toNat) l))=List.map prV (zIe n (zAY n (cs++[c]) e.toNat) l) from (by first | exact zBQ _ | exact zC6 _ | exact zCp _ | exact zCY (zC6 _) | exact zCY (zCp _) | exact zKx (by simp [zEM]) (zBQ _))]):some [(4,(PV.agg [I c.fst,I c.snd]).box),(5,PV.sl (zAE (List.map prV (zIe n (zAY n (cs++[c]) e.toNat) l))))]=some [(4,(PV.agg [I c.fst,I c.snd]).box),(5,prs (zIe n (zAY n (cs++[c]) e.toNat) l))])) (zU4 (by first | exact zBQ _ | exact zC6 _ | exact zCp _):PV.mapW (inl 5 [] (PV.own 2 (List.map prV (zIe n (zAY n (cs++[c]) e.toNat) l)))) (PV.bor 5 [] 2 0 (List.map prV (zIe n (zAY n (cs++[c]) e.toNat) l)).length)=prs (zIe n (zAY n (cs++[c]) e.toNat) l))) an) (prs (zIe n (zAY n (cs++[c]) e.toNat) l)) [] rfl rfl
end Go.Eng
set_option maxRecDepth 10000
set_option maxHeartbeats 4000000
namespace Go.Eng
open Go Go.Proofs
def zGi (n:Nw) (cs:List (Int×Int)):Bool:=decide ((n.l.length:Int)>20)||(decide ((n.n.length:Int)>12)||(decide ((n.s.length:Int)>10)||(decide ((cs.length:Int)>24)||n.s.any fun l=>decide ((l.length:Int)>14))))
theorem f16 (n:Nw) (cs:List (Int×Int)):FG 16 [nwV n,prs cs] (.bool (zGi n cs)):=by
 refine zAg Tryz.f16 ?_
 refine zAd 2<|zAa<|zAf<|zAd 2<|S_a [(0,.n n.l.length)] (ap (lnS prV n.l) an)<|zAc 2<|zD5 11 ((↑n.l.length:Int)>20) (fun k0=>(zAc 16<|zAa<|zA8<|zAd 1<|zAa<|zAm<|E_a [] an (PV.bool true) [] ?_ rfl)) (fun k0=>(zAc 2<|S_a [(0,.n n.n.length)] (ap (lnS ntV n.n) an)<|zAc 3<|zD5 17 ((↑n.n.length:Int)>12) (fun k1=>(zAc 10<|zAa<|zA8<|zAd 1<|zAa<|zAm<|E_a [] an (PV.bool true) [] ?_ rfl)) (fun k1=>(zAc 2<|S_a [(0,.n n.s.length)] (ap (lnS zAB n.s) an)<|zAc 3<|zD5 23 ((↑n.s.length:Int)>10) (fun k2=>(zAc 4<|zAa<|zA8<|zAd 1<|zAa<|zAm<|E_a [] an (PV.bool true) [] ?_ rfl)) (fun k2=>(zAc 1<|S_a [(0,.n cs.length)] (ap (lnS prV cs) an)<|zAc 2<|zAa<|zCd ((↑cs.length:Int)>24) (fun k3=>(zAd 1<|zAa<|zAm<|E_a [] an (PV.bool true) [] ?_ rfl)) (fun k3=>(zAk<|zAf<|zAd 2<|S_a [(0,.n n.s.length)] (ap (lnS zAB n.s) an)<|zAc 1<|zAa<|zAi 0 ?_))))))))
 ·simp only [zGi,decide_eq_true k0,Bool.true_or]
 ·simp only [zGi,decide_eq_true k1,Bool.true_or,Bool.or_true]
 ·simp only [zGi,decide_eq_true k2,Bool.true_or,Bool.or_true]
 ·simp only [zGi,decide_eq_true k3,Bool.true_or,Bool.or_true]
 have e:zGi n cs=n.s.any fun l=>decide ((l.length:Int)>14):=by
  simp only [zGi,decide_eq_false k0,decide_eq_false k1,decide_eq_false k2,decide_eq_false k3,Bool.false_or]
 rw [e]
 refine zAq (fun i=>i≤n.s.length∧∀ j,j<i→decide (((n.s.getD j []).length:Int)>14)=false) (fun (i:Nat)=>[(31,I (i:Nat))]) (fun i=>n.s.length-i) (0:Nat) ⟨Nat.zero_le _,fun j hj=>absurd hj (Nat.not_lt_zero j)⟩ fun i ⟨hi,ha⟩=>?_
 by_cases yH:i<n.s.length
 ·have wL:decide (((n.s.getD i []).length:Int)>14)=true→(n.s.any fun l=>decide ((l.length:Int)>14))=true:=fun h=>by
   rw [zAt yH] at h
   exact List.any_eq_true.2 ⟨_,List.getElem_mem yH,h⟩
  have j1:decide (((n.s.getD i []).length:Int)>14)=false→∀ j,j<i+1→decide (((n.s.getD j []).length:Int)>14)=false:=fun h j hj=>by
   rcases Nat.lt_succ_iff_lt_or_eq.1 hj with h2 | rfl
   ·exact ha j h2
   ·exact h
  clear ha
  refine zAd 1<|zAa<|zAf<|zAI ((↑i:Int)<(↑n.s.length:Int)) (by omega)<|zAk<|zAf<|zAi 1<|zAf<|zAe<|S_a [(2,.v (zAB (n.s.getD i [])))] (ap (zBv [] (by omega):(List.map zAB n.s)[i]? = some (zAB (n.s.getD i []))) an)<|zAc 2<|zAa<|zAd 1<|S_a [(0,.n ((n.s.getD i []).length))] (ap (lnS I (n.s.getD i [])) an)<|zAc 1<|zAa<|zCd ((↑(n.s.getD i []).length:Int)>14) (fun k4=>(zAd 1<|zAa<|zAm<|E_a [] an (PV.bool true) [] ?_ rfl)) (fun k4=>(zAk<|zAe<|S_a [(1,.v (I (↑(i+1):Int)))] (ap (wrN i) an)<|zAc 1<|zAa ?_))
  ·rw [wL (decide_eq_true k4)]
  ·exact ⟨i+1,⟨by omega,j1 (decide_eq_false k4)⟩,by omega,by kernel_rfl,by kernel_rfl⟩
 ·have hx:(n.s.any fun l=>decide ((l.length:Int)>14))=false:=by
   rw [List.any_eq_false]
   intro x hx
   obtain ⟨j,hj,rfl⟩:=List.getElem_of_mem hx
   have:=ha j (by omega)
   rw [zAt hj] at this
   rw [this];simp
  rw [hx]
  clear ha
  refine zAd 1<|zAa<|zAf<|zAQ ((↑i:Int)<(↑n.s.length:Int)) (by omega)<|zAA 0<|zAd 1<|zAa<|zAm<|E_a [] an (PV.bool false) [] rfl rfl
theorem f18 (n:Nw) (hs:Small n):FG 18 [nwV n] (nwO n):=by
 have h1:=hs.hl
 have h2:=hs.hn
 have h3:=hs.hs
 have h4:=hs.hr
 refine zAg Tryz.f18 ?_
 refine zAd 2<|zAa<|zAd 4<|S_a [(6,.ret (PV.own 2 (List.map prV n.l)) [])] (ap (f87 n.l (by omega)) an)<|zAc 2<|S_a [(6,.ret (PV.own 2 (List.map ntV n.n)) [])] (ap (f88 n.n (by omega)) an)<|zAc 2<|S_a [(6,.ret (PV.own 1 (List.map zBY n.s)) [])] (ap (f89 n.s (by omega) (by omega)) an)<|zAc 2<|zAa<|zAm<|E_a [(4,.yes),(1,.v (PV.own 2 (List.map prV n.l))),(1,.yes),(1,.v (PV.own 2 (List.map ntV n.n))),(1,.yes),(1,.v (PV.own 1 (List.map zBY n.s)))] (ap (blz (List.map prV n.l))<|ap ((zA3 zAW):PV.own 2 (List.take (List.map prV n.l).length (List.drop 0 (List.map prV n.l)))=PV.own 2 (List.map prV n.l))<|ap (blz (List.map ntV n.n))<|ap ((zA3 zAW):PV.own 2 (List.take (List.map ntV n.n).length (List.drop 0 (List.map ntV n.n)))=PV.own 2 (List.map ntV n.n))<|ap (blz (List.map zBY n.s))<|ap ((zA3 zAW):PV.own 1 (List.take (List.map zBY n.s).length (List.drop 0 (List.map zBY n.s)))=PV.own 1 (List.map zBY n.s)) an) (PV.agg [I n.h,PV.own 2 (List.map prV n.l),PV.own 2 (List.map ntV n.n),PV.own 1 (List.map zBY n.s)]) [] rfl rfl
theorem f33 (a:Nw) (hs:Small a):FG 33 [nwV a,nwV a] (.bool true):=by
 have h1:=hs.hl
 have h2:=hs.hn
 have h3:=hs.hs
 have h4:=hs.hr
 refine zAg Tryz.f33 ?_
 refine zAd 3<|zAa<|zAd 6<|zBL 10 (a.h=a.h) (by omega) (zAc 4<|S_a [(8,.ret (PV.bool (decide (a.l=a.l))) [])] (ap (f103 a.l a.l (by omega)) an)<|zAc 2<|zBL 17 (a.l=a.l) (by (simp;done)) (zAc 4<|S_a [(8,.ret (PV.bool (decide (a.n=a.n))) [])] (ap (f104 a.n a.n (by omega)) an)<|zAc 2<|zBL 24 (a.n=a.n) (by (simp;done)) (zAc 4<|S_a [(8,.ret (PV.bool (decide (a.s=a.s))) [])] (ap (f62 a.s a.s (by omega) ?_) an)<|zAc 2<|zAa<|zAm<|E_a [] an (PV.bool (decide (a.s=a.s))) [] (by simp [*]) rfl)))
 exact fun r hr=>by have:=h4 r hr;omega
theorem f19 (n:Nw) (hs:Small n):FG 19 [nwV n] (nwO n):=by
 have h1:=hs.hl
 have h2:=hs.hn
 have h3:=hs.hs
 have h4:=hs.hr
 refine zAg Tryz.f19 ?_
 refine zAd 2<|zAa<|zAd 4<|S_a [(6,.ret (PV.own 2 (List.map prV n.l)) [])] (ap (f87 n.l (by omega)) an)<|zAc 2<|S_a [(6,.ret (PV.own 1 (List.map zBY n.s)) [])] (ap (f89 n.s (by omega) (by omega)) an)<|zAc 3<|zAa<|zAf<|zAd 2<|S_a [(0,.n n.n.length)] (ap (lnS ntV n.n) an)<|zAc 1<|zAa<|zAi 0 ?_
 refine zAq (fun (i,q)=>i≤n.n.length∧q=n.n.take i) (fun (i,q)=>[(3,.box (.agg [I n.h,.own 2 (n.l.map prV),.own 2 (q.map ntV),.own 1 (n.s.map zBY)])),(18,I (i:Nat))]) (fun (i,_)=>n.n.length-i) ((0:Nat),([]:List (Int×Bool))) ⟨Nat.zero_le _,rfl⟩ fun (i,q) ⟨hi,hq⟩=>?_
 have uf:q.length≤i:=by rw [hq,List.length_take];omega
 by_cases yH:i<n.n.length
 ·have ya:=zB9 (d:=default) yH
  rw [← hq] at ya
  clear hq
  refine zAd 1<|zAa<|zAf<|zAI ((↑i:Int)<(↑n.n.length:Int)) (by omega)<|zAk<|zAf<|zAi 1<|zAf<|zAe<|S_a [(2,.v (PV.agg [I (n.n.getD i default).fst,PV.bool (n.n.getD i default).snd]))] (ap (zBv default (by omega):(List.map ntV n.n)[i]? = some (PV.agg [I (n.n.getD i default).fst,PV.bool (n.n.getD i default).snd])) an)<|zAc 3<|zAa<|zAe<|zAc 1<|S_a [(1,.v (PV.bor 3 [(0,2)] 2 0 q.length))] (ap ((by simp):PV.bor 3 [(0,2)] 2 0 (List.map ntV q).length=PV.bor 3 [(0,2)] 2 0 q.length) an)<|zAc 2<|S_a [(4,.ob),(0,.ob),(0,.yes),(2,.v (PV.own 2 (List.map ntV (q++[n.n.getD i default]))))] (ap ((by exact zBz (by simp only [List.length_map,zzLn,zA5]<;>omega)):(0+q.length).ble (List.map ntV q).length=true)<|ap ((by exact zBz (by simp only [List.length_map,zzLn,zA5]<;>omega)):((List.map ntV q).length + [PV.agg [I (n.n.getD i default).fst,PV.bool (n.n.getD i default).snd]].length).ble zA5=true)<|ap ((by exact zBO (by simp<;>omega)):(0+q.length).beq (List.map ntV q).length=true)<|ap ((zA3 (zDG (by kernel_rfl))):PV.own 2 (List.map ntV q++[PV.agg [I (n.n.getD i default).fst,PV.bool (n.n.getD i default).snd]])=PV.own 2 (List.map ntV (q++[n.n.getD i default]))) an)<|zAc 2<|zAa<|zAe<|S_a [(1,.v (I (↑(i+1):Int)))] (ap (wrN i) an)<|zAc 1<|zAa ?_
  exact ⟨(i+1,q++[n.n.getD i default]),⟨by omega,ya.symm⟩,by simp only;omega,by kernel_rfl,by kernel_rfl⟩
 ·have vK:q=n.n:=by rw [hq,List.take_of_length_le (by omega)]
  clear hq
  subst vK
  refine zAd 1<|zAa<|zAf<|zAQ ((↑i:Int)<(↑n.n.length:Int)) (by omega)<|zAA 0<|zAd 1<|S_a [(4,.yes),(2,.yes),(2,.yes)] (ap ((by exact zBO (by simp<;>omega)):(Nat.beq 0 0&&(List.map prV n.l).length.beq (List.map prV n.l).length)=true)<|ap ((by exact zBO (by simp<;>omega)):(Nat.beq 0 0&&(List.map ntV n.n).length.beq (List.map ntV n.n).length)=true)<|ap ((by exact zBO (by simp<;>omega)):(Nat.beq 0 0&&(List.map zBY n.s).length.beq (List.map zBY n.s).length)=true) an)<|zAa<|zAm<|E_a [(4,.yes),(1,.v (PV.own 2 (List.map prV n.l))),(1,.yes),(1,.v (PV.own 2 (List.map ntV n.n))),(1,.yes),(1,.v (PV.own 1 (List.map zBY n.s)))] (ap (blz (List.map prV n.l))<|ap ((zA3 zAW):PV.own 2 (List.take (List.map prV n.l).length (List.drop 0 (List.map prV n.l)))=PV.own 2 (List.map prV n.l))<|ap (blz (List.map ntV n.n))<|ap ((zA3 zAW):PV.own 2 (List.take (List.map ntV n.n).length (List.drop 0 (List.map ntV n.n)))=PV.own 2 (List.map ntV n.n))<|ap (blz (List.map zBY n.s))<|ap ((zA3 zAW):PV.own 1 (List.take (List.map zBY n.s).length (List.drop 0 (List.map zBY n.s)))=PV.own 1 (List.map zBY n.s)) an) (PV.agg [I n.h,PV.own 2 (List.map prV n.l),PV.own 2 (List.map ntV n.n),PV.own 1 (List.map zBY n.s)]) [] rfl rfl
theorem f21 (l:List (Int×Int)) (hl:l.length<1000000):FG 21 [prs l] (.own 2 (l.map prV)):=by
 refine zAg Tryz.f21 ?_
 refine zAd 1<|zAa<|zAd 1<|zAa<|zAf<|zAd 1<|S_a [(0,.n l.length)] (ap (lnS prV l) an)<|zAc 1<|zAa<|zAi 0 ?_
 refine zAq (fun (i,q)=>i≤l.length∧q=l.take i) (fun (i,q)=>[(3,.own 2 (q.map prV)),(8,I (i:Nat))]) (fun (i,_)=>l.length-i) ((0:Nat),([]:List (Int×Int))) ⟨Nat.zero_le _,rfl⟩ fun (i,q) ⟨hi,hq⟩=>?_
 have uf:q.length≤i:=by rw [hq,List.length_take];omega
 by_cases yH:i<l.length
 ·have ya:=zB9 (d:=default) yH
  rw [← hq] at ya
  clear hq
  refine zAd 1<|zAa<|zAf<|zAI ((↑i:Int)<(↑l.length:Int)) (by omega)<|zAk<|zAf<|zAi 1<|zAf<|zAe<|S_a [(2,.v (PV.agg [I (l.getD i default).fst,I (l.getD i default).snd]))] (ap (zBv default (by omega):(List.map prV l)[i]? = some (PV.agg [I (l.getD i default).fst,I (l.getD i default).snd])) an)<|zAc 3<|zAa<|zAe<|zAc 3<|S_a [(4,.ob),(0,.ob),(0,.yes),(2,.v (PV.own 2 (List.map prV (q++[l.getD i default]))))] (ap (blz (List.map prV q))<|ap ((by exact zBz (by simp only [List.length_map,zzLn,zA5]<;>omega)):((List.map prV q).length + [PV.agg [I (l.getD i default).fst,I (l.getD i default).snd]].length).ble zA5=true)<|ap ((by exact zBO (by simp<;>omega)):(0+(List.map prV q).length).beq (List.map prV q).length=true)<|ap ((zA3 (zDG (by kernel_rfl))):PV.own 2 (List.map prV q++[PV.agg [I (l.getD i default).fst,I (l.getD i default).snd]])=PV.own 2 (List.map prV (q++[l.getD i default]))) an)<|zAc 1<|zAa<|zAe<|S_a [(1,.v (I (↑(i+1):Int)))] (ap (wrN i) an)<|zAc 1<|zAa ?_
  exact ⟨(i+1,q++[l.getD i default]),⟨by omega,ya.symm⟩,by simp only;omega,by kernel_rfl,by kernel_rfl⟩
 ·rw [List.take_of_length_le (by omega)] at hq
  rw [← hq]
  clear hq
  refine zAd 1<|zAa<|zAf<|zAQ ((↑i:Int)<(↑q.length:Int)) (by omega)<|zAA 0<|zAd 1<|S_a [(2,.yes)] (ap ((by exact zBO (by simp<;>omega)):(Nat.beq 0 0&&(List.map prV q).length.beq (List.map prV q).length)=true) an)<|zAa<|zAm<|E_a [(1,.yes),(1,.v (PV.own 2 (List.map prV q)))] (ap (blz (List.map prV q))<|ap ((zA3 zAW):PV.own 2 (List.take (List.map prV q).length (List.drop 0 (List.map prV q)))=PV.own 2 (List.map prV q)) an) (PV.own 2 (List.map prV q)) [] rfl rfl
end Go.Eng
set_option maxRecDepth 100000
set_option maxHeartbeats 4000000
namespace Go.Eng
open Go Go.Proofs
def zDX:Nw:=⟨4,[(0,1),(1,2),(2,3)],[(-1,false),(0,true)],[[0],[0,3]]⟩
def zFk:List (Int×Int):=[(0,1),(1,0)]
def zIG:List (Int×Int):=[(2,0),(3,0)]
theorem zUg:NwOk zDX:=zSQ (by decide +kernel)
theorem zKm:CrOk zDX zFk:=zTx (by decide +kernel)
theorem zOA:zBW zDX (zAY zDX zFk (1:Int).toNat)=zIG:=by decide +kernel
theorem zVm:OffOk zDX zFk 1 [0,1]:=⟨by decide +kernel,zUt (by decide +kernel),by decide,by decide⟩
theorem zWF:zIe zDX (zAY zDX (zFk++[(1,0)]) (1:Int).toNat) zIG=[]:=by decide +kernel
theorem zXa:zIe zDX (zAY zDX (zFk++[(1,1)]) (1:Int).toNat) zIG=zIG:=by decide +kernel
def zZE:List (PV×PV):=[(.agg [I 1,I 0],.sl []),(.agg [I 1,I 1],.sl (zIG.map prV))]
abbrev zQ3:List PV:=[.addr 50000000 [] 0 0 none,.addr 50000001 [] 0 0 none,.addr 50000002 [] 0 0 none,.addr 50000003 [] 0 0 none,.addr 50000004 [] 0 0 none]
abbrev zRu (b:Bool) (l:List PV):List PV:=[.box (.bool b),.box (.own 2 l),.box (.own 2 [prV (1,0),prV (1,1)]),.box (.omap [(prV (1,0),.sl []),(prV (1,1),prs zIG)]),.box (.func 187 [] zQ3)]
theorem zPK:zDp Tryz.prog zKO 187 (.nils 0::prs zIG::zQ3) (zRu false []) (.tup []) (zRu true [prV (1,1)]):=zDp.closed 60
theorem zQD:FG 134 [zDR zDX zFk,.agg [zXG zDX zFk 1 zIG],prs zIG,I 0,zAB [0,1]] (.tup [.own 2 [.agg [I 1,I 1]],.bool true]):=by
 have h0:FG 173 [.agg [I 1,I 0],.ref (zDR zDX zFk),.ref (prs zIG),.ref (I 1)] (.sl []):=by
  have:=f173 zDX zFk zIG 1 (1,0) zKm.w (by decide) (by decide) (by decide) (by decide) (by decide)
  rw [zWF] at this;exact this
 have h1:FG 173 [.agg [I 1,I 1],.ref (zDR zDX zFk),.ref (prs zIG),.ref (I 1)] (.sl (zIG.map prV)):=by
  have:=f173 zDX zFk zIG 1 (1,1) zKm.w (by decide) (by decide) (by decide) (by decide) (by decide)
  rw [zXa] at this;exact this
 refine zAg Tryz.f134 ?_
 refine zAd 3<|zAa<|zAd 3<|zAa<|zAd 1<|zAa<|zAf<|zAd 1<|zAc 1<|zAc 1<|zAa<|zAi 0 ?_
 refine zAq (fun j=>j≤2) (fun (j:Nat)=>[(12,.box (.omap (zZE.take j))),(13,.box (.own 2 (([(1,0),(1,1)]:List (Int×Int)).take j |>.map prV))),(23,I (j:Nat))]) (fun j=>2-j) (0:Nat) (by omega) fun j hj=>?_
 have hj3:j=0∨j=1∨j=2:=by omega
 rcases hj3 with e | e | e
 ·subst e
  refine zAd 1<|zAa<|zAf<|zA8<|zAk<|zAf<|zAi 1<|zAd 3<|zAa<|zAd 10<|zAa<|zAe<|zAc 2<|zAc 1<|zAc 6<|S_a [(9,.ret (PV.sl []) [])] (ap h0 an)<|zAc 4<|zAa<|zAe<|zAc 2<|zAa ?_
  exact ⟨1,by omega,by omega,by kernel_rfl,by kernel_rfl⟩
 ·subst e
  refine zAd 1<|zAa<|zAf<|zA8<|zAk<|zAf<|zAi 1<|zAd 3<|zAa<|zAd 10<|zAa<|zAe<|zAc 2<|zAc 1<|zAc 6<|S_a [(9,.ret (prs zIG) [])] (ap h1 an)<|zAc 4<|zAa<|zAe<|zAc 2<|zAa ?_
  exact ⟨2,by omega,by omega,by kernel_rfl,by kernel_rfl⟩
 ·subst e
  have yc:=zPK
  refine zAd 1<|zAa<|zAf<|zAw<|zAA 0<|zAd 1<|zAa<|zAd 2<|zAa<|zAd 1<|zAa<|zAd 2<|zAa<|zAd 2<|S_a [(8,.ret (PV.tup []) (zRu true [prV (1,1)]))] (ap yc an)<|zAa<|zAd 1<|zAc 1<|zAc 1<|zAc 1<|zAa<|zAm<|E_a [] an (PV.tup [PV.own 2 [PV.agg [I (1,1).fst,I (1,1).snd]],PV.bool true]) [] rfl rfl
theorem zPH:FG 57 [nwV zDX,prs zFk,I 1,zAB [0,1]] (.tup [.own 2 [.agg [I 1,I 1]],I 0]):=by
 have ho:=f121_1 zDX zFk 1 [0,1] zVm (by decide)
 rw [zOA] at ho
 have gl:FG 135 [zDR zDX zFk,prs zIG,I 0] (.own 2 (zIG.map prV)):=by
  have:=f135 zDX zFk zIG 0 zUg (by decide) (by decide)
  rwa [show ofL zDX 0 zIG=zIG from by decide +kernel] at this
 have hc:=zQD
 refine zAg Tryz.f57 ?_
 refine zAd 3<|zAa<|zAd 4<|S_a [(12,.ret (PV.tup [zDR zDX zFk,prs zIG,PV.agg [zXG zDX zFk 1 zIG],I 0]) [])] (ap ho an)<|zAc 10<|zAa<|zAf<|zAd 2<|zAa<|zAw<|zAk<|zAd 1<|zAa<|zAf<|zAd 2<|zAc 1<|zAc 1<|zAa<|zAi 0 ?_
 refine zAq (fun j=>j≤2) (fun (j:Nat)=>[(14,.own 2 (([(1,1)]:List (Int×Int)).take j |>.map prV)),(34,I (j:Nat))]) (fun j=>2-j) (0:Nat) (by omega) fun j hj=>?_
 have hj3:j=0∨j=1∨j=2:=by omega
 rcases hj3 with e | e | e
 ·subst e
  refine zAd 1<|zAa<|zAf<|zA8<|zAk<|zAf<|zAi 1<|zAd 2<|zAa<|zAf<|zAd 8<|zAa<|zAw<|zAk<|zAd 5<|S_a [(9,.ret (PV.own 2 (List.map prV zIG)) [])] (ap gl an)<|zAc 2<|S_a [(14,.ret (PV.tup [PV.own 2 [PV.agg [I 1,I 1]],PV.bool true]) [])] (ap hc an)<|zAc 5<|zAa<|zAf<|zAd 2<|zAa<|zAw<|zAk<|zAe<|zAc 4<|zAa<|zAe<|zAc 2<|zAa ?_
  exact ⟨1,by omega,by omega,by kernel_rfl,by kernel_rfl⟩
 ·subst e
  refine zAd 1<|zAa<|zAf<|zA8<|zAk<|zAf<|zAi 1<|zAd 2<|zAa<|zAf<|zAd 8<|zAa<|zA8<|zAA 1<|zAe<|zAc 2<|zAa ?_
  exact ⟨2,by omega,by omega,by kernel_rfl,by kernel_rfl⟩
 ·subst e
  refine zAd 1<|zAa<|zAf<|zAw<|zAA 0<|zAd 3<|zAa<|zAm<|E_a [] an (PV.tup [PV.own 2 [PV.agg [I (1,1).fst,I (1,1).snd]],I 0]) [] rfl rfl
end Go.Eng
