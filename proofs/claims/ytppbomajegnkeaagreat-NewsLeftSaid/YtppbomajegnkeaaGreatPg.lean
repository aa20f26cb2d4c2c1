/- For whatever news, cries and evenings, the law NewsLeft returns true and changes no argument: gaps, misled yz, when all is zD8 and when all is clear are as the reference tells them. -/
import Derived.Test.YtppbomajegnkeaaGreatPf
import Derived.Test.YtppbomajegnkeaaGreatPd
set_option linter.unusedVariables false
set_option linter.unusedSimpArgs false
set_option linter.unusedSectionVars false
set_option maxRecDepth 10000
set_option maxHeartbeats 4000000
namespace Go.Eng
open Go Go.Proofs
abbrev hdV (w:List Int):PV := .agg (zAS w 80)
def zQr (w:List Int) (i:Nat) (x:Int):List Int:=w.set i (max (w.getD i 0) x)
theorem zIA {w:List Int} {i:Nat} {x:Int}:(zQr w i x).length=w.length:=by simp [zQr]
def begC (n:Nw) (h:Nat) (w:List Int) (c:Int×Int):List Int:=if has (n.s.getD c.2.toNat []) h=true then zQr w (h*8+((zAk n).getD c.1.toNat 0).toNat) c.1 else w
def begH (n:Nw) (h:Nat) (w:List Int) (cs:List (Int×Int)):List Int:=cs.foldl (begC n h) w
def begN (n:Nw) (cs:List (Int×Int)) (h:Nat):List Int:=(List.range h).foldl (fun w h=>begH n h w cs) (List.replicate 80 (-1))
def nxtR (now:List Int) (h o:Nat) (w:List Int) (k:Nat):List Int:=(List.range k).foldl (fun w i=>zQr w (h*8+i) (now.getD (o*8+i) 0)) w
def nxtH (now:List Int) (h:Nat) (w:List Int) (l:List Nat):List Int:=l.foldl (fun w o=>nxtR now h o w 8) w
def nxtN (n:Nw) (now:List Int) (h:Nat):List Int:=(List.range h).foldl (fun w h=>nxtH now h w (zGN n h n.h.toNat)) now
def zOo (n:Nw) (cs:List (Int×Int)):List Int:=begN n cs n.h.toNat
def zCo (n:Nw) (now:List Int):List Int:=nxtN n now n.h.toNat
def zAV (n:Nw) (cs:List (Int×Int)):Nat→List Int
 | 0=>zOo n cs
 | k+1=>zCo n (zAV n cs k)
theorem zSY {n:Nw} {h:Nat} {w:List Int} {c:Int×Int}:(begC n h w c).length=w.length:=by unfold begC;split<;>simp [zIA]
theorem zLC {n:Nw} {h:Nat}:∀ {cs:List (Int×Int)} {w:List Int},(begH n h w cs).length=w.length
 | [],w=>rfl
 | c::cs,w=>by
  show (begH n h (begC n h w c) cs).length=_
  rw [zLC,zSY]
theorem zI8 {n:Nw} {cs:List (Int×Int)} {h:Nat}:begN n cs (h+1)=begH n h (begN n cs h) cs:=by
 simp only [begN,List.range_succ,List.foldl_append,List.foldl_cons,List.foldl_nil]
theorem zLM {n:Nw} {cs:List (Int×Int)}:∀ h,(begN n cs h).length=80
 | 0=>by simp [begN]
 | h+1=>by rw [zI8,zLC];exact zLM h
theorem zSk {n:Nw} {h:Nat} {w:List Int} {cs:List (Int×Int)} {i:Nat} (hi:i<cs.length):begH n h w (cs.take (i+1))=begC n h (begH n h w (cs.take i)) (cs.getD i default):=zGH hi
theorem zJN {now w:List Int} {h o k:Nat}:nxtR now h o w (k+1)=zQr (nxtR now h o w k) (h*8+k) (now.getD (o*8+k) 0):=by
 simp only [nxtR,List.range_succ,List.foldl_append,List.foldl_cons,List.foldl_nil]
theorem zGS {now w:List Int} {h o:Nat}:∀ k,(nxtR now h o w k).length=w.length
 | 0=>rfl
 | k+1=>by rw [zJN,zIA];exact zGS k
theorem zK6 {now:List Int} {h:Nat}:∀ {l:List Nat} {w:List Int},(nxtH now h w l).length=w.length
 | [],_=>rfl
 | o::l,w=>by
  show (nxtH now h (nxtR now h o w 8) l).length=_
  rw [zK6,zGS]
theorem zJ4 {n:Nw} {now:List Int} {h:Nat}:nxtN n now (h+1)=nxtH now h (nxtN n now h) (zGN n h n.h.toNat):=by
 simp only [nxtN,List.range_succ,List.foldl_append,List.foldl_cons,List.foldl_nil]
theorem zIx {n:Nw} {now:List Int}:∀ h,(nxtN n now h).length=now.length
 | 0=>rfl
 | h+1=>by rw [zJ4,zK6];exact zIx h
theorem zQ4 {now:List Int} {h:Nat} {w:List Int} {l:List Nat} {i:Nat} (hi:i<l.length):nxtH now h w (l.take (i+1))=nxtR now h (l.getD i 0) (nxtH now h w (l.take i)) 8:=zGH hi
theorem zPr {n:Nw} {cs:List (Int×Int)}:(zOo n cs).length=80:=zLM _
theorem zRO {n:Nw} {w:List Int} (h:w.length=80):(zCo n w).length=80:=by rw [zCo,zIx,h]
theorem zBB {n:Nw} {cs:List (Int×Int)}:∀ k,(zAV n cs k).length=80
 | 0=>zPr
 | k+1=>zRO (zBB k)
theorem zJS {F:List Int} {i:Nat} {a:Int} (hF:F.length=8) (hi:i<8) (ha : -1≤a∧a<i) (j:Nat):(zMo F i a).getD j 0=if j=i then (if a = -1 then (i:Int) else F.getD a.toNat 0) else F.getD j 0:=by
 unfold zMo
 by_cases hj:j=i
 ·subst hj
  rw [if_pos rfl]
  split
  ·rw [zCN,if_pos ⟨rfl,by omega⟩]
  ·rw [zCN,if_pos ⟨rfl,by simp;omega⟩,zCN,if_neg (by omega)]
 ·rw [if_neg hj]
  split
  ·rw [zCN,if_neg (fun h=>hj h.1.symm)]
  ·rw [zCN,if_neg (fun h=>hj h.1.symm),zCN,if_neg (fun h=>hj h.1.symm)]
theorem zOe {n:Nw} (ho:NwOk n):∀ i,i≤n.n.length→∀ j,j<i→0≤(zOt n.n i).getD j 0∧(zOt n.n i).getD j 0≤j
 | 0,_,j,hj=>absurd hj (Nat.not_lt_zero j)
 | i + 1,hi,j,hj=>by
  have h8:=ho.nl.2
  have ha:=ho.na i (by omega)
  rw [zOt,zJS (zG7 i) (by omega) ha]
  split
  ·subst j
   split
   ·omega
   ·have:=zOe ho i (by omega) ((n.n.getD i default).1.toNat) (by omega)
    omega
  ·exact zOe ho i (by omega) j (by omega)
theorem zCf {n:Nw} (ho:NwOk n) (j:Nat) (hj:j<n.n.length):0≤(zAk n).getD j 0∧(zAk n).getD j 0≤j:=zOe ho _ (Nat.le_refl _) j hj
theorem f100 (n:Nw) (cs:List (Int×Int)) (ho:CrW n cs):FG 100 [zDQ n cs] (hdV (zOo n cs)):=by
 have hb:=ho.nw.h
 have hn:=ho.nw
 have yN:=ho.len
 refine zAf Tryz.f100 ?_
 refine zAb (zAa (zAd 1 (zAc (zAb (zAa (zAd 1 (zAc (zAb (zAb (zAa (zAd 1 (zAc (zAh 0 ?_)))))))))))))
 refine zAo (fun (h,w)=>h≤10∧w.length=80∧∀ j,j<h*8→w.getD j 0 = -1) (fun (h,w)=>[(3,.box (hdV w)),(11,I (h:Nat))]) (fun (h,_)=>10-h) ((0:Nat),List.replicate 80 0) ⟨by omega,rfl,fun j h=>by omega⟩ fun (h,w) ⟨hh,hw,ha⟩=>?_
 by_cases qC:h<10
 ·refine zAb (zAa (zAd 1 (zAc (zAb (zAL ((↑h:Int)<10) (by omega) (zAi (zAb (zAh 1 (zAb (zAa (zAd 2 (zAc (zAb (zAa (zAd 1 (zAc (zAh 2 ?_)))))))))))))))))
  refine zAo (fun (i,v)=>i≤8∧v.length=80∧∀ j,j<h*8+i→v.getD j 0 = -1) (fun (i,v)=>[(3,.box (hdV v)),(14,I (i:Nat))]) (fun (i,_)=>8-i) ((0:Nat),w) ⟨by omega,hw,fun j h=>ha j (by omega)⟩ fun (i,v) ⟨hi,hv,hav⟩=>?_
  by_cases yC:i<8
  ·refine zAb (zAa (zAd 1 (zAc (zAb (zAL ((↑i:Int)<8) (by omega) (zAi (zAb (zAh 3 (zAb (zAa (zAd 2 (zAc (zAa (zAd 2 (S_a [(2,.ob)] (ap ((by exact zAp (by omega)):decide (h<10)=true) an) (S_a [(2,.ob)] (ap ((by exact zAp (by omega)):decide (i<8)=true) an) (S_a [(7,.root ((PV.agg (zAS (v.set (h*8+i) (-1)) 80)).box) true)] (ap (zPC (zKA (q:=(PV.agg (zAS v 80)).box) (xs:=[PV.agg (zAS v 80)]) (x:=PV.agg (zAS v 80)) (y:=PV.agg (zAS (v.set (h*8+i) (-1)) 80)) (q':=(PV.agg (zAS (v.set (h*8+i) (-1)) 80)).box) rfl (zNz (F:=v) (m:=80) (j:=h*8+i) (u:=-1) (by first | rfl | exact zBZ (by kernel_rfl) | exact zBW (by kernel_rfl) | exact zDF (by kernel_rfl) (by kernel_rfl) | exact zDI (by kernel_rfl) | exact zDU (by kernel_rfl) (by kernel_rfl) | exact zDG (by kernel_rfl) | (simp;done)) (by omega) (by omega)) rfl (hb:=zNL (F:=v) (m:=80) (j:=h*8+i) (by first | rfl | exact zBZ (by kernel_rfl) | exact zBW (by kernel_rfl) | exact zDF (by kernel_rfl) (by kernel_rfl) | exact zDI (by kernel_rfl) | exact zDU (by kernel_rfl) (by kernel_rfl) | exact zDG (by kernel_rfl) | (simp;done)) (by omega))) rfl:zBx (PV.agg (zAS v 80)).box [] 0 (0+(↑h:Int).toNat*(fun x=>x.size) Tryz.prog.types[128]+(↑i:Int).toNat*(fun x=>x.size) Tryz.prog.types[3]) (I (-1)).cells=some (PV.agg (zAS (v.set (h*8+i) (-1)) 80)).box∧zAD (PV.agg (zAS v 80)).box (PV.agg (zAS (v.set (h*8+i) (-1)) 80)).box []=true) an) (zAc (zAa (S_a [(1,.v (I (↑(i+1):Int)))] (ap (wrN i) an) (zAd 1 (zAc ?_))))))))))))))))))))))
   refine ⟨(i+1,v.set (h*8+i) (-1)),⟨by omega,by simpa using hv,fun j hj=>?_⟩,by simp only;omega,by kernel_rfl,by kernel_rfl⟩
   rw [zCN]
   split
   ·rfl
   ·exact hav j (by omega)
  ·refine zAb (zAa (zAd 1 (zAc (zAb (zAO ((↑i:Int)<8) (by omega) (zAv 2 (zAa (S_a [(1,.v (I (↑(h+1):Int)))] (ap (wrN h) an) (zAd 1 (zAc ?_))))))))))
   exact ⟨(h+1,v),⟨by omega,hv,fun j hj=>hav j (by omega)⟩,by simp only;omega,by kernel_rfl,by kernel_rfl⟩
 ·have hw0:w=List.replicate 80 (-1):=by
   refine List.ext_getElem (by simp [hw]) fun j h1 h2=>?_
   have:=ha j (by omega)
   rw [zAr h1] at this
   rw [this,List.getElem_replicate]
  clear ha
  have hw0':begN n cs 0=w:=by rw [hw0];rfl
  clear hw0
  refine zAb (zAa (zAd 1 (zAc (zAb (zAO ((↑h:Int)<10) (by omega) (zAv 0 (zAb (zAa (zAd 3 (zAc (zAb (zAb (zAa (zAd 6 (zAc (zAh 4 ?_))))))))))))))))
  refine zAo (fun (h,v)=>h≤n.h.toNat∧v=begN n cs h) (fun (h,v)=>[(3,.box (hdV v)),(30,I (h:Nat))]) (fun (h,_)=>n.h.toNat-h) ((0:Nat),w) ⟨by omega,hw0'.symm⟩ fun (h,v) ⟨hh,hv⟩=>?_
  have jx:v.length=80:=by rw [hv];exact zLM h
  by_cases qC:(h:Int)<n.h
  ·have yE:=zI8 (n:=n) (cs:=cs) (h:=h)
   rw [← hv] at yE
   refine zAb (zAa (zAd 1 (zAc (zAb (zAL ((↑h:Int)<n.h) (by omega) (zAi (zAb (zAh 5 (zAb (zAa (zAd 2 (zAc (zAb (zAa (zAd 4 (S_a [(0,.n (cs.length))] (ap (lnS prV cs) an) (zAd 1 (zAc (zAh 6 ?_)))))))))))))))))))
   refine zAo (fun (i,q)=>i≤cs.length∧q=begH n h v (cs.take i)) (fun (i,q)=>[(3,.box (hdV q)),(38,I (i:Nat))]) (fun (i,_)=>cs.length-i) ((0:Nat),v) ⟨by omega,rfl⟩ fun (i,q) ⟨hi,hq⟩=>?_
   have uQ:q.length=80:=by rw [hq,zLC];exact jx
   by_cases yC:i<cs.length
   ·have hci:=zBC (d:=default) ho.cs i yC
    have yg:=zSk (n:=n) (h:=h) (w:=v) yC
    rw [← hq] at yg
    have LC:=zCf hn (cs.getD i default).1.toNat (by omega)
    have uH:=hn.nl
    have jF:=hci.2
    have vV:0≤(cs.getD i default).1∧(cs.getD i default).1<8:=by omega
    have gu:((zAk n).getD (cs.getD i default).1.toNat 0).toNat<8:=by have:=hn.nl;omega
    clear yE hv hq
    refine zAb (zAa (zAd 1 (zAc (zAb (zAL ((↑i:Int)<(↑cs.length:Int)) (by omega) (zAi (zAb (zAh 7 (zAb (zAa (S_a [(2,.v (PV.agg [I (cs.getD i default).fst,I (cs.getD i default).snd]))] (ap (zBA (default) (by omega):(List.map prV cs)[i]? = some (PV.agg [I (cs.getD i default).fst,I (cs.getD i default).snd])) an) (zAd 3 (zAc (zAb (zAa (zAd 4 (S_a [(9,.ret (PV.bool (has (n.s.getD (cs.getD i default).snd.toNat []) (↑h:Int))) ([]))] (ap (f140 (n) (PV.sl (List.map prV cs)) (List.map pr2 n.l) (zAk n) (zA5 n) (by omega) ((↑h:Int)) ((cs.getD i default).snd) (by omega)) an) (zAc (zD4 (has (n.s.getD (cs.getD i default).snd.toNat []) (↑h:Int)) (fun k0=>(zAb (zAa (zAd 5 (S_a [(0,.ob),(1,.ob),(0,.v ((I ((zAk n).getD (cs.getD i default).fst.toNat 0)).ref))] (ap ((by exact zAp (by omega)):decide (0≤(cs.getD i default).fst)=true) (ap ((by exact zAp (by omega)):decide ((cs.getD i default).fst.toNat<8)=true) (ap (zGw (F:=zAk n) (m:=8) (j:=(cs.getD i default).fst.toNat) (by omega):zCb (PV.agg (zAS (zAk n) 8)).ref ((cs.getD i default).fst.toNat*(fun x=>x.size) Tryz.prog.types[3]) none=some (I ((zAk n).getD (cs.getD i default).fst.toNat 0)).ref) an))) (zAd 2 (zAc (zAa (zAd 4 (S_a [(2,.ob)] (ap ((by exact zAp (by omega)):decide (h<10)=true) an) (S_a [(0,.ob),(1,.ob)] (ap ((by exact zAp (by omega)):decide (0≤(zAk n).getD (cs.getD i default).fst.toNat 0)=true) (ap ((by exact zAp (by omega)):decide (((zAk n).getD (cs.getD i default).fst.toNat 0).toNat<8)=true) an)) (S_a [(0,.cs true ([I (q.getD (h*8+((zAk n).getD (cs.getD i default).fst.toNat 0).toNat) 0)]))] (ap (zDk (q:=(PV.agg (zAS q 80)).box) (xs:=[PV.agg (zAS q 80)]) (x:=PV.agg (zAS q 80)) rfl rfl (zE7 (F:=q) (m:=80) (j:=h*8+((zAk n).getD (cs.getD i default).fst.toNat 0).toNat) (by first | rfl | exact zBZ (by kernel_rfl) | exact zBW (by kernel_rfl) | exact zDF (by kernel_rfl) (by kernel_rfl) | exact zDI (by kernel_rfl) | exact zDU (by kernel_rfl) (by kernel_rfl) | exact zDG (by kernel_rfl) | (simp;done)) (by omega)):zAt 3 (PV.agg (zAS q 80)).box [] 0 (0+(↑h:Int).toNat*(fun x=>x.size) Tryz.prog.types[128]+((zAk n).getD (cs.getD i default).fst.toNat 0).toNat*(fun x=>x.size) Tryz.prog.types[3]) 1=some (true,[I (q.getD (h*8+((zAk n).getD (cs.getD i default).fst.toNat 0).toNat) 0)])) an) (zAd 3 (S_a [(9,.ret (I (max (q.getD (h*8+((zAk n).getD (cs.getD i default).fst.toNat 0).toNat) 0) (cs.getD i default).fst)) ([]))] (ap (f165 (q.getD (h*8+((zAk n).getD (cs.getD i default).fst.toNat 0).toNat) 0) ((cs.getD i default).fst)) an) (S_a [(2,.ob)] (ap ((by exact zAp (by omega)):decide (h<10)=true) an) (S_a [(0,.ob),(1,.ob)] (ap ((by exact zAp (by omega)):decide (0≤(zAk n).getD (cs.getD i default).fst.toNat 0)=true) (ap ((by exact zAp (by omega)):decide (((zAk n).getD (cs.getD i default).fst.toNat 0).toNat<8)=true) an)) (S_a [(8,.root ((PV.agg (zAS (q.set (h*8+((zAk n).getD (cs.getD i default).fst.toNat 0).toNat) (max (q.getD (h*8+((zAk n).getD (cs.getD i default).fst.toNat 0).toNat) 0) (cs.getD i default).fst)) 80)).box) true)] (ap (zPC (zKA (q:=(PV.agg (zAS q 80)).box) (xs:=[PV.agg (zAS q 80)]) (x:=PV.agg (zAS q 80)) (y:=PV.agg (zAS (q.set (h*8+((zAk n).getD (cs.getD i default).fst.toNat 0).toNat) (max (q.getD (h*8+((zAk n).getD (cs.getD i default).fst.toNat 0).toNat) 0) (cs.getD i default).fst)) 80)) (q':=(PV.agg (zAS (q.set (h*8+((zAk n).getD (cs.getD i default).fst.toNat 0).toNat) (max (q.getD (h*8+((zAk n).getD (cs.getD i default).fst.toNat 0).toNat) 0) (cs.getD i default).fst)) 80)).box) rfl (zNz (F:=q) (m:=80) (j:=h*8+((zAk n).getD (cs.getD i default).fst.toNat 0).toNat) (u:=max (q.getD (h*8+((zAk n).getD (cs.getD i default).fst.toNat 0).toNat) 0) (cs.getD i default).fst) (by first | rfl | exact zBZ (by kernel_rfl) | exact zBW (by kernel_rfl) | exact zDF (by kernel_rfl) (by kernel_rfl) | exact zDI (by kernel_rfl) | exact zDU (by kernel_rfl) (by kernel_rfl) | exact zDG (by kernel_rfl) | (simp;done)) (by omega) (by omega)) rfl (hb:=zNL (F:=q) (m:=80) (j:=h*8+((zAk n).getD (cs.getD i default).fst.toNat 0).toNat) (by first | rfl | exact zBZ (by kernel_rfl) | exact zBW (by kernel_rfl) | exact zDF (by kernel_rfl) (by kernel_rfl) | exact zDI (by kernel_rfl) | exact zDU (by kernel_rfl) (by kernel_rfl) | exact zDG (by kernel_rfl) | (simp;done)) (by omega))) rfl:zBx (PV.agg (zAS q 80)).box [] 0 (0+(↑h:Int).toNat*(fun x=>x.size) Tryz.prog.types[128]+((zAk n).getD (cs.getD i default).fst.toNat 0).toNat*(fun x=>x.size) Tryz.prog.types[3]) (I (max (q.getD (h*8+((zAk n).getD (cs.getD i default).fst.toNat 0).toNat) 0) (cs.getD i default).fst)).cells=some (PV.agg (zAS (q.set (h*8+((zAk n).getD (cs.getD i default).fst.toNat 0).toNat) (max (q.getD (h*8+((zAk n).getD (cs.getD i default).fst.toNat 0).toNat) 0) (cs.getD i default).fst)) 80)).box∧zAD (PV.agg (zAS q 80)).box (PV.agg (zAS (q.set (h*8+((zAk n).getD (cs.getD i default).fst.toNat 0).toNat) (max (q.getD (h*8+((zAk n).getD (cs.getD i default).fst.toNat 0).toNat) 0) (cs.getD i default).fst)) 80)).box []=true) an) (zAc (zAa (S_a [(1,.v (I (↑(i+1):Int)))] (ap (wrN i) an) (zAd 1 (zAc ?_)))))))))))))))))))))) (fun k0=>(zAi (zAa (S_a [(1,.v (I (↑(i+1):Int)))] (ap (wrN i) an) (zAd 1 (zAc ?_)))))))))))))))))))))))))
    ·rw [begC,if_pos k0] at yg
     exact ⟨(i+1,zQr q (h*8+((zAk n).getD (cs.getD i default).1.toNat 0).toNat) (cs.getD i default).1),⟨by omega,yg.symm⟩,by simp only;omega,by kernel_rfl,by kernel_rfl⟩
    ·rw [begC,if_neg (by rw [k0];simp)] at yg
     exact ⟨(i+1,q),⟨by omega,yg.symm⟩,by simp only;omega,by kernel_rfl,by kernel_rfl⟩
   ·refine zAb (zAa (zAd 1 (zAc (zAb (zAO ((↑i:Int)<(↑cs.length:Int)) (by omega) (zAv 6 (zAa (S_a [(1,.v (I (↑(h+1):Int)))] (ap (wrN h) an) (zAd 1 (zAc ?_))))))))))
    rw [List.take_of_length_le (by omega)] at hq
    exact ⟨(h+1,q),⟨by omega,by rw [yE,hq]⟩,by simp only;omega,by kernel_rfl,by kernel_rfl⟩
  ·have e:h=n.h.toNat:=by omega
   subst e
   refine zAb (zAa (zAd 1 (zAc (zAb (zAO ((↑n.h.toNat:Int)<n.h) (by omega) (zAv 4 (zAb (zAa (zAd 2 (zAc (zAl (E_a [] an (PV.agg (zAS v 80)) ([]) ?_ rfl))))))))))))
   rw [hv];rfl
theorem zRU {n:Nw} {h o m:Nat} (ho:o∈zGN n h m):o<m:=by
 simp only [zGN,List.mem_filter,List.mem_range] at ho;exact ho.1
theorem zS6 {w:List Int} {o i:Nat} (hi:i<8):((w.drop o).take 8).getD i 0=w.getD (o+i) 0:=by
 simp [List.getD_eq_getElem?_getD,List.getElem?_take,hi]
theorem f101 (n:Nw) (cs:List (Int×Int)) (now:List Int) (ho:NwOk n) (hw:now.length=80):FG 101 [zDQ n cs,hdV now] (hdV (zCo n now)):=by
 have hb:=ho.h
 refine zAf Tryz.f101 ?_
 refine zAb (zAa (zAd 2 (zAc (zAb (zAa (zAd 3 (zAc (zAb (zAb (zAa (zAd 6 (zAc (zAh 0 ?_)))))))))))))
 refine zAo (fun (h,v)=>h≤n.h.toNat∧v=nxtN n now h) (fun (h,v)=>[(5,.box (hdV v)),(16,I (h:Nat))]) (fun (h,_)=>n.h.toNat-h) ((0:Nat),now) ⟨by omega,rfl⟩ fun (h,v) ⟨hh,hv⟩=>?_
 have jx:v.length=80:=by rw [hv,zIx];exact hw
 by_cases qC:(h:Int)<n.h
 ·have yE:=zJ4 (n:=n) (now:=now) (h:=h)
  rw [← hv] at yE
  have hA:=zUL n cs h ho qC
  refine zAb (zAa (zAd 1 (zAc (zAb (zAL ((↑h:Int)<n.h) (by omega) (zAi (zAb (zAh 1 (zAb (zAa (zAd 3 (zAc (zAb (zAa (zAd 2 (S_a [(7,.ret (PV.func 169 [] [(zDQ n cs).ref,(I (↑h:Int)).ref]) ([]))] (ap (f116 (n) (cs) ((↑h:Int))) an) (zAc (zAh 2 ?_))))))))))))))))))
  refine zOs (t:=21) hA (fun j q=>q=nxtH now h v ((zGN n h n.h.toNat).take j)) (fun q=>[(5,.box (hdV q))]) v rfl (fun j x q hx hq=>?_) (fun q hq=>?_)
  ·rw [List.getElem?_map] at hx
   obtain ⟨o,hm,rfl⟩:=Option.map_eq_some_iff.1 hx
   have hj:j<(zGN n h n.h.toNat).length:=(List.getElem?_eq_some_iff.1 hm).1
   have hol:o<n.h.toNat:=zRU (List.mem_of_getElem? hm)
   have uQ:q.length=80:=by rw [hq,zK6];exact jx
   have yg:=zQ4 (now:=now) (h:=h) (w:=v) hj
   rw [← hq,show (zGN n h n.h.toNat).getD j 0=o by simp [List.getD_eq_getElem?_getD,hm]] at yg
   clear yE hv hA hq hm hj
   refine zPa ?_
   refine zAa (zAd 1 (zAc ?_))
   refine ⟨rfl,by kernel_rfl,?_⟩
   refine zAh 3 (zAb (zAa (zAd 1 (S_a [(2,.ob)] (ap ((by exact zAp (by omega)):decide (o<10)=true) an) (S_a [(0,.cs true (zAS (List.take 8 (List.drop (o*8) now)) 8))] (ap (zDk (q:=(PV.agg (zAS now 80)).box) (xs:=[PV.agg (zAS now 80)]) (x:=PV.agg (zAS now 80)) rfl rfl (zUZ (K:=8) (c:=o*8) (by omega) (by first | rfl | exact zBZ (by kernel_rfl) | exact zBW (by kernel_rfl) | exact zDG (by kernel_rfl) | (simp;done)) (by omega) (by kernel_rfl)):zAt 3 (PV.agg (zAS now 80)).box [] 0 (0+(↑o:Int).toNat*(fun x=>x.size) Tryz.prog.types[128]) Tryz.prog.types[128].size=some (true,zAS (List.take 8 (List.drop (o*8) now)) 8)) an) (zAd 1 (zAc (zAh 4 ?_))))))))
   refine zAo (fun (i,p)=>i≤8∧p=nxtR now h o q i) (fun (i,p)=>[(5,.box (hdV p)),(26,I (i:Nat))]) (fun (i,_)=>8-i) ((0:Nat),q) ⟨by omega,rfl⟩ fun (i,p) ⟨hi,hp⟩=>?_
   have ut:p.length=80:=by rw [hp,zGS];exact uQ
   by_cases yC:i<8
   ·have yR:=zJN (now:=now) (w:=q) (h:=h) (o:=o) (k:=i)
    rw [← hp,← zS6 yC] at yR
    refine zAb (zAa (zAd 1 (zAc (zAb (zAL ((↑i:Int)<8) (by omega) (zAi (zAb (zAh 5 (zAb (zAa (zAd 1 (S_a [(2,.ob),(0,.v (I ((List.take 8 (List.drop (o*8) now)).getD i 0)))] (ap ((by exact zAp (by omega)):decide (i<8)=true) (ap (zUa (F:=List.take 8 (List.drop (o*8) now)) (m:=8) (j:=i) (by omega):sub (PV.agg (zAS (List.take 8 (List.drop (o*8) now)) 8)) (i*(fun x=>x.size) Tryz.prog.types[3]) none=some (I ((List.take 8 (List.drop (o*8) now)).getD i 0))) an)) (zAd 2 (zAc (zAa (zAd 4 (S_a [(2,.ob)] (ap ((by exact zAp (by omega)):decide (h<10)=true) an) (S_a [(2,.ob)] (ap ((by exact zAp (by omega)):decide (i<8)=true) an) (S_a [(0,.cs true ([I (p.getD (h*8+i) 0)]))] (ap (zDk (q:=(PV.agg (zAS p 80)).box) (xs:=[PV.agg (zAS p 80)]) (x:=PV.agg (zAS p 80)) rfl rfl (zE7 (F:=p) (m:=80) (j:=h*8+i) (by first | rfl | exact zBZ (by kernel_rfl) | exact zBW (by kernel_rfl) | exact zDF (by kernel_rfl) (by kernel_rfl) | exact zDI (by kernel_rfl) | exact zDU (by kernel_rfl) (by kernel_rfl) | exact zDG (by kernel_rfl) | (simp;done)) (by omega)):zAt 5 (PV.agg (zAS p 80)).box [] 0 (0+(↑h:Int).toNat*(fun x=>x.size) Tryz.prog.types[128]+(↑i:Int).toNat*(fun x=>x.size) Tryz.prog.types[3]) 1=some (true,[I (p.getD (h*8+i) 0)])) an) (zAd 2 (S_a [(9,.ret (I (max (p.getD (h*8+i) 0) ((List.take 8 (List.drop (o*8) now)).getD i 0))) ([]))] (ap (f165 (p.getD (h*8+i) 0) ((List.take 8 (List.drop (o*8) now)).getD i 0)) an) (S_a [(2,.ob)] (ap ((by exact zAp (by omega)):decide (h<10)=true) an) (S_a [(2,.ob)] (ap ((by exact zAp (by omega)):decide (i<8)=true) an) (S_a [(8,.root ((PV.agg (zAS (p.set (h*8+i) (max (p.getD (h*8+i) 0) ((List.take 8 (List.drop (o*8) now)).getD i 0))) 80)).box) true)] (ap (zPC (zKA (q:=(PV.agg (zAS p 80)).box) (xs:=[PV.agg (zAS p 80)]) (x:=PV.agg (zAS p 80)) (y:=PV.agg (zAS (p.set (h*8+i) (max (p.getD (h*8+i) 0) ((List.take 8 (List.drop (o*8) now)).getD i 0))) 80)) (q':=(PV.agg (zAS (p.set (h*8+i) (max (p.getD (h*8+i) 0) ((List.take 8 (List.drop (o*8) now)).getD i 0))) 80)).box) rfl (zNz (F:=p) (m:=80) (j:=h*8+i) (u:=max (p.getD (h*8+i) 0) ((List.take 8 (List.drop (o*8) now)).getD i 0)) (by first | rfl | exact zBZ (by kernel_rfl) | exact zBW (by kernel_rfl) | exact zDF (by kernel_rfl) (by kernel_rfl) | exact zDI (by kernel_rfl) | exact zDU (by kernel_rfl) (by kernel_rfl) | exact zDG (by kernel_rfl) | (simp;done)) (by omega) (by omega)) rfl (hb:=zNL (F:=p) (m:=80) (j:=h*8+i) (by first | rfl | exact zBZ (by kernel_rfl) | exact zBW (by kernel_rfl) | exact zDF (by kernel_rfl) (by kernel_rfl) | exact zDI (by kernel_rfl) | exact zDU (by kernel_rfl) (by kernel_rfl) | exact zDG (by kernel_rfl) | (simp;done)) (by omega))) rfl:zBx (PV.agg (zAS p 80)).box [] 0 (0+(↑h:Int).toNat*(fun x=>x.size) Tryz.prog.types[128]+(↑i:Int).toNat*(fun x=>x.size) Tryz.prog.types[3]) (I (max (p.getD (h*8+i) 0) ((List.take 8 (List.drop (o*8) now)).getD i 0))).cells=some (PV.agg (zAS (p.set (h*8+i) (max (p.getD (h*8+i) 0) ((List.take 8 (List.drop (o*8) now)).getD i 0))) 80)).box∧zAD (PV.agg (zAS p 80)).box (PV.agg (zAS (p.set (h*8+i) (max (p.getD (h*8+i) 0) ((List.take 8 (List.drop (o*8) now)).getD i 0))) 80)).box []=true) an) (zAc (zAa (S_a [(1,.v (I (↑(i+1):Int)))] (ap (wrN i) an) (zAd 1 (zAc ?_)))))))))))))))))))))))))))))
    exact ⟨(i+1,_),⟨by omega,yR.symm⟩,by simp only;omega,by kernel_rfl,by kernel_rfl⟩
   ·refine zAb (zAa (zAd 1 (zAc (zAb (zAO ((↑i:Int)<8) (by omega) (zAv 4 ?_))))))
    rw [show i=8 by omega] at hp
    exact ⟨by kernel_rfl,p,by rw [yg,hp],by kernel_rfl⟩
  ·rw [List.length_map,List.take_length] at hq
   show W _ _ _ _ _ _ _ _
   refine zAa (S_a [(1,.v (I (↑(h+1):Int)))] (ap (wrN h) an) (zAd 1 (zAc ?_)))
   exact ⟨(h+1,q),⟨by omega,by rw [yE,hq]⟩,by simp only;omega,by kernel_rfl,by kernel_rfl⟩
 ·have e:h=n.h.toNat:=by omega
  subst e
  refine zAb (zAa (zAd 1 (zAc (zAb (zAO ((↑n.h.toNat:Int)<n.h) (by omega) (zAv 0 (zAb (zAa (zAd 2 (zAc (zAl (E_a [] an (PV.agg (zAS v 80)) ([]) ?_ rfl))))))))))))
  rw [hv];rfl
end Go.Eng
set_option maxRecDepth 10000
set_option maxHeartbeats 4000000
namespace Go.Eng
open Go Go.Proofs
def zQO (n:Nw) (w:List Int) (h i:Nat):Bool:=decide (w.getD (h*8+((zAk n).getD i 0).toNat) 0=i)&&decide ((zA5 n).getD i 0≠i)
def zJg (n:Nw) (w:List Int) (h k:Nat):List (Int×Int):=((List.range k).filter fun i=>zQO n w h i).map fun (i:Nat)=>((h:Int),(i:Int))
def zP3 (n:Nw) (w:List Int) (h:Nat):List (Int×Int):=(List.range h).flatMap fun h=>zJg n w h n.n.length
def zBl (n:Nw) (w:List Int):List (Int×Int):=zP3 n w n.h.toNat
theorem zR0 {n:Nw} {w:List Int} {h k:Nat}:zJg n w h (k+1)=if zQO n w h k=true then zJg n w h k++[((h:Int),(k:Int))] else zJg n w h k:=by
 unfold zJg;rw [List.range_succ,List.filter_append,List.map_append]
 by_cases hn:zQO n w h k=true
 ·rw [if_pos hn];simp [hn]
 ·rw [if_neg hn];simp [hn]
theorem zJT {n:Nw} {w:List Int} {h:Nat}:zP3 n w (h+1)=zP3 n w h++zJg n w h n.n.length:=by
 unfold zP3;rw [List.range_succ,List.flatMap_append];simp
theorem zOH {n:Nw} {w:List Int} {h k:Nat}:(zJg n w h k).length≤k:=by
 unfold zJg;rw [List.length_map];exact Nat.le_trans (List.length_filter_le _ _) (by simp)
theorem zLI {n:Nw} {w:List Int}:∀ h,(zP3 n w h).length≤h*n.n.length
 | 0=>by simp [zP3]
 | h+1=>by
  have h1:=zLI (n:=n) (w:=w) h
  have h2:=zOH (n:=n) (w:=w) (h:=h) (k:=n.n.length)
  rw [zJT,List.length_append,Nat.succ_mul];omega
theorem zEU {n:Nw} {w:List Int} (ho:NwOk n):(zBl n w).length≤80:=by
 have h1:=zLI (n:=n) (w:=w) n.h.toNat
 have h2:=ho.h
 have h3:=ho.nl
 have h4:n.h.toNat*n.n.length≤10*8:=Nat.mul_le_mul (by omega) (by omega)
 unfold zBl;omega
theorem f92 (n:Nw) (cs:List (Int×Int)) (e:Int) (ho:CrW n cs) (he:0≤e∧e≤1000):FG 92 [zDQ n cs,I e] (hdV (zAV n cs e.toNat)):=by
 have hn:=ho.nw
 refine zAf Tryz.f92 ?_
 refine zAb (zAa (zAd 1 (zAc (zAb (zAa (zAd 1 (S_a [(5,.ret (hdV (zOo n cs)) ([]))] (ap (f100 (n) (cs) (by omega)) an) (zAd 2 (zAc (zAb (zAb (zAa (zAd 2 (zAc (zAh 0 ?_)))))))))))))))
 refine zAo (fun (k,w)=>k≤e.toNat∧w=zAV n cs k) (fun (k,w)=>[(5,.box (hdV w)),(9,I (k:Nat))]) (fun (k,_)=>e.toNat-k) ((0:Nat),zOo n cs) ⟨by omega,rfl⟩ fun (k,w) ⟨hk,hw⟩=>?_
 have hwl:w.length=80:=by rw [hw];exact zBB k
 by_cases uO:(k:Int)<e
 ·refine zAb (zAa (zAd 1 (zAc (zAb (zAL ((↑k:Int)<e) (by omega) (zAi (zAb (zAh 1 (zAa (zAd 2 (S_a [(7,.ret (hdV (zCo n w)) ([]))] (ap (f101 (n) (cs) (w) (by omega) (by omega)) an) (zAd 1 (zAc (zAa (S_a [(1,.v (I (↑(k+1):Int)))] (ap (wrN k) an) (zAd 1 (zAc ?_)))))))))))))))))
  exact ⟨(k+1,zCo n w),⟨by omega,by rw [hw];rfl⟩,by simp only;omega,by kernel_rfl,by kernel_rfl⟩
 ·refine zAb (zAa (zAd 1 (zAc (zAb (zAO ((↑k:Int)<e) (by omega) (zAv 0 (zAb (zAa (zAd 2 (zAc (zAl (E_a [] an (PV.agg (zAS w 80)) ([]) ?_ rfl))))))))))))
  rw [hw,show k=e.toNat by omega]
theorem f91 (n:Nw) (cs:List (Int×Int)) (w:List Int) (ho:NwOk n) (hw:w.length=80):FG 91 [zDQ n cs,hdV w] (.own 2 ((zBl n w).map prV)):=by
 have hb:=ho.h
 have uH:=ho.nl
 refine zAf Tryz.f91 ?_
 refine zAb (zAa (zAd 2 (zAc (zAb (zAa (zAd 1 (zAc (zAb (zAb (zAa (zAd 6 (zAc (zAh 0 ?_)))))))))))))
 refine zAo (fun (h,l)=>h≤n.h.toNat∧l=zP3 n w h) (fun (h,l)=>[(5,.own 2 (l.map prV)),(13,I (h:Nat))]) (fun (h,_)=>n.h.toNat-h) ((0:Nat),([]:List (Int×Int))) ⟨by omega,rfl⟩ fun (h,l) ⟨hh,hl⟩=>?_
 have qn:l.length≤h*8:=by
  have h1:=zLI (n:=n) (w:=w) h
  rw [← hl] at h1
  exact Nat.le_trans h1 (Nat.mul_le_mul (Nat.le_refl _) (by omega))
 by_cases qC:(h:Int)<n.h
 ·have yE:=zJT (n:=n) (w:=w) (h:=h)
  rw [← hl] at yE
  refine zAb (zAa (zAd 1 (zAc (zAb (zAL ((↑h:Int)<n.h) (by omega) (zAi (zAb (zAh 1 (zAb (zAa (zAd 2 (zAc (zAb (zAa (zAd 5 (S_a [(0,.n (n.n.length))] (ap (lnS ntV n.n) an) (zAd 1 (zAc (zAh 2 ?_)))))))))))))))))))
  refine zAo (fun (i,m)=>i≤n.n.length∧m=l++zJg n w h i) (fun (i,m)=>[(5,.own 2 (m.map prV)),(22,I (i:Nat))]) (fun (i,_)=>n.n.length-i) ((0:Nat),l) ⟨by omega,by simp [zJg]⟩ fun (i,m) ⟨hi,hm⟩=>?_
  have hml:m.length≤88:=by
   have:=zOH (n:=n) (w:=w) (h:=h) (k:=i)
   rw [hm,List.length_append];omega
  by_cases yC:i<n.n.length
  ·have yR:=zR0 (n:=n) (w:=w) (h:=h) (k:=i)
   have LC:=zCf ho i yC
   have gu:0≤(zAk n).getD i 0∧(zAk n).getD i 0<8:=by omega
   clear yE
   have kE:zQO n w h i=false→m=l++zJg n w h (i+1):=fun hg=>by rw [yR,if_neg (by rw [hg];simp)];exact hm
   refine zAb (zAa (zAd 1 (zAc (zAb (zAL ((↑i:Int)<(↑n.n.length:Int)) (by omega) (zAi (zAb (zAh 3 (zAb (zAa (zAd 2 (zAc (zAb (zAa (zAd 5 (S_a [(2,.ob),(0,.v ((I ((zAk n).getD i 0)).ref))] (ap ((by exact zAp (by omega)):decide (i<8)=true) (ap (zGw (F:=zAk n) (m:=8) (j:=i) (by omega):zCb (PV.agg (zAS (zAk n) 8)).ref (i*(fun x=>x.size) Tryz.prog.types[3]) none=some (I ((zAk n).getD i 0)).ref) an)) (zAd 1 (S_a [(2,.ob)] (ap ((by exact zAp (by omega)):decide (h<10)=true) an) (S_a [(0,.ob),(1,.ob)] (ap ((by exact zAp (by omega)):decide (0≤(zAk n).getD i 0)=true) (ap ((by exact zAp (by omega)):decide (((zAk n).getD i 0).toNat<8)=true) an)) (S_a [(0,.cs true ([I (w.getD (h*8+((zAk n).getD i 0).toNat) 0)]))] (ap (zDk (q:=(PV.agg (zAS w 80)).box) (xs:=[PV.agg (zAS w 80)]) (x:=PV.agg (zAS w 80)) rfl rfl (zE7 (F:=w) (m:=80) (j:=h*8+((zAk n).getD i 0).toNat) (by first | rfl | exact zBZ (by kernel_rfl) | exact zBW (by kernel_rfl) | exact zDF (by kernel_rfl) (by kernel_rfl) | exact zDI (by kernel_rfl) | exact zDU (by kernel_rfl) (by kernel_rfl) | exact zDG (by kernel_rfl) | (simp;done)) (by omega)):zAt 3 (PV.agg (zAS w 80)).box [] 0 (0+(↑h:Int).toNat*(fun x=>x.size) Tryz.prog.types[128]+((zAk n).getD i 0).toNat*(fun x=>x.size) Tryz.prog.types[3]) 1=some (true,[I (w.getD (h*8+((zAk n).getD i 0).toNat) 0)])) an) (zAd 3 (zEw 37 (w.getD (h*8+((zAk n).getD i 0).toNat) 0=(↑i:Int)) (fun k0=>(zAd 4 (S_a [(2,.ob),(0,.v ((I ((zA5 n).getD i 0)).ref))] (ap ((by exact zAp (by omega)):decide (i<8)=true) (ap (zGw (F:=zA5 n) (m:=8) (j:=i) (by omega):zCb (PV.agg (zAS (zA5 n) 8)).ref (i*(fun x=>x.size) Tryz.prog.types[3]) none=some (I ((zA5 n).getD i 0)).ref) an)) (zAd 4 (zAc (zC6 ((zA5 n).getD i 0=(↑i:Int)) (fun k1=>(zAa (zAd 5 (S_a [(4,.ob),(0,.ob),(0,.yes),(2,.v (PV.own 2 (List.map prV (m++[((↑h:Int),(↑i:Int))]))))] (ap (blz (List.map prV m)) (ap ((by exact zBs (by simp only [List.length_map,zzLn,zA1]<;>omega)):((List.map prV m).length + [PV.agg [I (↑h:Int),I (↑i:Int)]].length).ble zA1=true) (ap ((by exact zBr (by simp<;>omega)):(0+(List.map prV m).length).beq (List.map prV m).length=true) (ap ((zAR (zCv (by kernel_rfl))):PV.own 2 (List.map prV m++[PV.agg [I (↑h:Int),I (↑i:Int)]])=PV.own 2 (List.map prV (m++[((↑h:Int),(↑i:Int))]))) an)))) (zAd 1 (zAc (zAa (S_a [(1,.v (I (↑(i+1):Int)))] (ap (wrN i) an) (zAd 1 (zAc ?_)))))))))) (fun k1=>(zAi (zAa (S_a [(1,.v (I (↑(i+1):Int)))] (ap (wrN i) an) (zAd 1 (zAc ?_)))))))))))) (fun k0=>(zAd 9 (zAc (zAU (zAi (zAa (S_a [(1,.v (I (↑(i+1):Int)))] (ap (wrN i) an) (zAd 1 (zAc ?_)))))))))))))))))))))))))))))))
   ·have hg:zQO n w h i=true:=by simp only [zQO,decide_eq_true k0,Bool.true_and,decide_eq_true_eq];exact k1
    exact ⟨(i+1,m++[((h:Int),(i:Int))]),⟨by omega,by rw [yR,if_pos hg,hm,List.append_assoc]⟩,by simp only;omega,by kernel_rfl,by kernel_rfl⟩
   ·exact ⟨(i+1,m),⟨by omega,kE (by simp only [zQO,decide_eq_true k0,Bool.true_and,decide_eq_false_iff_not];exact fun h=>h k1)⟩,by simp only;omega,by kernel_rfl,by kernel_rfl⟩
   ·exact ⟨(i+1,m),⟨by omega,kE (by simp only [zQO,decide_eq_false k0,Bool.false_and])⟩,by simp only;omega,by kernel_rfl,by kernel_rfl⟩
  ·refine zAb (zAa (zAd 1 (zAc (zAb (zAO ((↑i:Int)<(↑n.n.length:Int)) (by omega) (zAv 2 (zAa (S_a [(1,.v (I (↑(h+1):Int)))] (ap (wrN h) an) (zAd 1 (zAc ?_))))))))))
   exact ⟨(h+1,m),⟨by omega,by rw [yE,hm,show i=n.n.length by omega]⟩,by simp only;omega,by kernel_rfl,by kernel_rfl⟩
 ·have e:h=n.h.toNat:=by omega
  subst e
  refine zAb (zAa (zAd 1 (zAc (zAb (zAO ((↑n.h.toNat:Int)<n.h) (by omega) (zAv 0 (zAb (zAa (zAd 1 (S_a [(2,.yes)] (ap ((by exact zBr (by simp<;>omega)):(Nat.beq 0 0&&(List.map prV l).length.beq (List.map prV l).length)=true) an) (zAc (zAl (E_a [(1,.yes),(1,.v (PV.own 2 (List.map prV l)))] (ap (blz (List.map prV l)) (ap ((zAR zAK):PV.own 2 (List.take (List.map prV l).length (List.drop 0 (List.map prV l)))=PV.own 2 (List.map prV l)) an)) (PV.own 2 (List.map prV l)) ([]) ?_ rfl)))))))))))))
  rw [hl];rfl
theorem f22_1 (n:Nw) (cs:List (Int×Int)) (e:Int) (ho:EvOk n cs e):FG 22 [nwV n,prs cs,I e] (.tup [.own 2 ((zBl n (zAV n cs e.toNat)).map prV),I 0]):=by
 have hc:=ho.cr
 have kj:=hc.w
 have hn:=hc.nw
 have he:=ho.ev
 have hw:=zBB (n:=n) (cs:=cs) e.toNat
 refine zAf Tryz.f22 ?_
 refine zAb (zAa (zAd 3 (zAc (zAb (zAa (zAd 3 (S_a [(10,.ret (PV.tup [zDQ n cs,I 0]) ([]))] (ap (f90_1 (n) (cs) (e) (by omega)) an) (zAd 5 (zAc (zAb (zAb (zAa (zAd 2 (zAc (zAU (zAi (zAb (zAa (zAd 3 (S_a [(7,.ret (hdV (zAV n cs e.toNat)) ([]))] (ap (f92 (n) (cs) (e) (by omega) (by omega)) an) (S_a [(7,.ret (PV.own 2 (List.map prV (zBl n (zAV n cs e.toNat)))) ([]))] (ap (f91 (n) (cs) (zAV n cs e.toNat) (by omega) (by omega)) an) (zAd 2 (zAc (zAl (E_a [(1,.yes),(1,.v (PV.own 2 (List.map prV (zBl n (zAV n cs e.toNat)))))] (ap (blz (List.map prV (zBl n (zAV n cs e.toNat)))) (ap ((zAR zAK):PV.own 2 (List.take (List.map prV (zBl n (zAV n cs e.toNat))).length (List.drop 0 (List.map prV (zBl n (zAV n cs e.toNat)))))=PV.own 2 (List.map prV (zBl n (zAV n cs e.toNat)))) an)) (PV.tup [PV.own 2 (List.map prV (zBl n (zAV n cs e.toNat))),I 0]) ([]) rfl rfl)))))))))))))))))))))))))
theorem f22_2 (n:Nw) (cs:List (Int×Int)) (e:Int) (hs:Small n) (hl:cs.length<1000000) (ho:¬ zB7 n cs e=0):FG 22 [nwV n,prs cs,I e] (.tup [.own 2 [],I (zB7 n cs e)]):=by
 refine zAf Tryz.f22 ?_
 refine zAb (zAa (zAd 3 (zAc (zAb (zAa (zAd 3 (S_a [(10,.ret (PV.tup [PV.nilp,I (zB7 n cs e)]) ([]))] (ap (f90_2 (n) (cs) (e) (by omega) (by omega) (by omega)) an) (zAd 5 (zAc (zAb (zAb (zAa (zAd 2 (zAc (zCj (zB7 n cs e=0) (by omega) (zAb (zAa (zAd 3 (zAc (zAl (E_a [] an (PV.tup [PV.own 2 [],I (zB7 n cs e)]) ([]) rfl rfl)))))))))))))))))))))
def msl (n:Nw) (l:List (Int×Int)):List Int:=(l.filter fun g => !(n.n.getD g.2.toNat default).2).map Prod.fst
theorem zT9 {n:Nw} {l:List (Int×Int)} {i:Nat} (hi:i<l.length):msl n (l.take (i+1))=if (n.n.getD (l.getD i default).2.toNat default).2=true then msl n (l.take i) else msl n (l.take i)++[(l.getD i default).1]:=by
 unfold msl;rw [zBO (d:=default) hi,List.filter_append,List.map_append]
 generalize l.getD i default=g
 cases hb:(n.n.getD g.2.toNat default).2
 ·rw [List.filter_cons_of_pos (by rw [hb];rfl)];rfl
 ·rw [List.filter_cons_of_neg (by rw [hb];simp)];simp
theorem zRd {n:Nw} {w:List Int} {g:Int×Int} (hg:g∈zBl n w):∃ h i:Nat,h<n.h.toNat∧i<n.n.length∧g=((h:Int),(i:Int))∧zQO n w h i=true:=by
 simp only [zBl,zP3,List.mem_flatMap,List.mem_range,zJg,List.mem_map,List.mem_filter] at hg
 obtain ⟨h,hh,i,⟨hi,hb⟩,rfl⟩:=hg
 exact ⟨h,i,hh,hi,rfl,hb⟩
theorem f26_1 (n:Nw) (cs:List (Int×Int)) (e:Int) (ho:EvOk n cs e):FG 26 [nwV n,prs cs,I e] (.tup [.own 1 ((zFk (msl n (zBl n (zAV n cs e.toNat)))).map I),I 0]):=by
 have hn:=ho.cr.nw
 have hX:=zEU (w:=zAV n cs e.toNat) hn
 have y1:∀ g∈zBl n (zAV n cs e.toNat),0≤g.2∧g.2<n.n.length:=fun g hg=>by
  obtain ⟨h,i,h1,h2,rfl,_⟩:=zRd hg
  simp only;omega
 have h1:=f22_1 n cs e ho
 generalize zBl n (zAV n cs e.toNat)=G at *
 refine zAf Tryz.f26 ?_
 refine zAb (zAa (zAd 3 (zAc (zAb (zAa (zAd 3 (S_a [(10,.ret (PV.tup [PV.own 2 (List.map prV G),I 0]) ([]))] (ap (h1) an) (zAd 5 (zAc (zAb (zAb (zAa (zAd 2 (zAc (zAU (zAi (zAb (zAa (zAd 1 (zAc (zAb (zAb (zAa (zAd 1 (S_a [(0,.n (G.length))] (ap (lnS prV G) an) (zAd 1 (zAc (zAh 0 ?_))))))))))))))))))))))))))))
 refine zAo (fun (i,l)=>i≤G.length∧l=msl n (G.take i)) (fun (i,l)=>[(10,.own 1 (l.map I)),(25,I (i:Nat))]) (fun (i,_)=>G.length-i) ((0:Nat),([]:List Int)) ⟨by omega,by simp [msl]⟩ fun (i,l) ⟨hi,hl⟩=>?_
 have qn:l.length≤i:=by
  rw [hl,msl,List.length_map]
  exact Nat.le_trans (List.length_filter_le _ _) (by rw [List.length_take];omega)
 by_cases yC:i<G.length
 ·have yg:=zT9 (n:=n) yC
  rw [← hl] at yg
  have hgi:=zBC (d:=default) y1 i yC
  clear h1 y1
  refine zAb (zAa (zAd 1 (zAc (zAb (zAL ((↑i:Int)<(↑G.length:Int)) (by omega) (zAi (zAb (zAh 1 (zAb (zAa (S_a [(2,.ob),(1,.n (i))] (ap ((by exact zAp (by simp only [List.length_map,zzLn]<;>omega)):decide (i<(List.map prV G).length)=true) (ap ((by simp):some (0+i)=some i) an)) (S_a [(0,.cs true ([I (G.getD i default).fst,I (G.getD i default).snd]))] (ap (zDk (q:=PV.own 2 (List.map prV G)) (xs:=List.map prV G) (x:=PV.agg [I (G.getD i default).fst,I (G.getD i default).snd]) rfl (zBA (default) (by omega)):zAt 8 (PV.own 2 (List.map prV G)) [] i 0 Tryz.prog.types[108].size=some (true,[I (G.getD i default).fst,I (G.getD i default).snd])) an) (zAd 2 (zAc (zAb (zAa (zAd 4 (S_a [(0,.ob),(1,.v (PV.agg [I (n.n.getD (G.getD i default).snd.toNat default).fst,PV.bool (n.n.getD (G.getD i default).snd.toNat default).snd]))] (ap ((by exact zAp (by omega)):decide (0≤(G.getD i default).snd)=true) (ap (zBA (default) (by omega):(List.map ntV n.n)[(G.getD i default).snd.toNat]? = some (PV.agg [I (n.n.getD (G.getD i default).snd.toNat default).fst,PV.bool (n.n.getD (G.getD i default).snd.toNat default).snd])) an)) (zAd 3 (zAc (zD4 (!(n.n.getD (G.getD i default).snd.toNat default).snd) (fun k0=>(zAa (zAd 4 (S_a [(4,.ob),(0,.ob),(0,.yes),(2,.v (PV.own 1 (List.map I (l++[(G.getD i default).fst]))))] (ap (blz (List.map I l)) (ap ((by exact zBs (by simp only [List.length_map,zzLn,zA1]<;>omega)):((List.map I l).length + [I (G.getD i default).fst].length).ble zA1=true) (ap ((by exact zBr (by simp<;>omega)):(0+(List.map I l).length).beq (List.map I l).length=true) (ap ((zAR (zCv (by kernel_rfl))):PV.own 1 (List.map I l++[I (G.getD i default).fst])=PV.own 1 (List.map I (l++[(G.getD i default).fst]))) an)))) (zAd 1 (zAc (zAa (S_a [(1,.v (I (↑(i+1):Int)))] (ap (wrN i) an) (zAd 1 (zAc ?_)))))))))) (fun k0=>(zAi (zAa (S_a [(1,.v (I (↑(i+1):Int)))] (ap (wrN i) an) (zAd 1 (zAc ?_)))))))))))))))))))))))))))
  ·rw [Bool.not_eq_true'] at k0
   rw [if_neg (by rw [k0];simp)] at yg
   exact ⟨(i+1,l++[(G.getD i default).1]),⟨by omega,yg.symm⟩,by simp only;omega,by kernel_rfl,by kernel_rfl⟩
  ·rw [Bool.not_eq_false'] at k0
   rw [if_pos k0] at yg
   exact ⟨(i+1,l),⟨by omega,yg.symm⟩,by simp only;omega,by kernel_rfl,by kernel_rfl⟩
 ·rw [List.take_of_length_le (by omega)] at hl
  rw [← hl]
  clear h1 y1
  refine zAb (zAa (zAd 1 (zAc (zAb (zAO ((↑i:Int)<(↑G.length:Int)) (by omega) (zAv 0 (zAb (zAa (zAd 1 (S_a [(3,.ob),(1,.v (PV.own 1 (List.map I l))),(2,.ret (PV.own 1 (List.map I (zFk l))) ([]))] (ap ((by exact zBs (by simp only [List.length_map,zzLn,zA1]<;>omega)):(List.map I l).length.ble (List.map I l).length=true) (ap ((zAR zAK):PV.own 1 (List.take (List.map I l).length (List.drop 0 (List.map I l)))=PV.own 1 (List.map I l)) (ap (f97 (l) (by omega)) an))) (zAd 2 (zAc (zAl (E_a [(1,.yes),(1,.v (PV.own 1 (List.map I (zFk l))))] (ap (blz (List.map I (zFk l))) (ap ((zAR zAK):PV.own 1 (List.take (List.map I (zFk l)).length (List.drop 0 (List.map I (zFk l))))=PV.own 1 (List.map I (zFk l))) an)) (PV.tup [PV.own 1 (List.map I (zFk l)),I 0]) ([]) rfl rfl))))))))))))))
theorem f26_2 (n:Nw) (cs:List (Int×Int)) (e:Int) (hs:Small n) (hl:cs.length<1000000) (ho:¬ zB7 n cs e=0):FG 26 [nwV n,prs cs,I e] (.tup [.own 1 [],I (zB7 n cs e)]):=by
 refine zAf Tryz.f26 ?_
 refine zAb (zAa (zAd 3 (zAc (zAb (zAa (zAd 3 (S_a [(10,.ret (PV.tup [PV.own 2 [],I (zB7 n cs e)]) ([]))] (ap (f22_2 (n) (cs) (e) (by omega) (by omega) (by omega)) an) (zAd 5 (zAc (zAb (zAb (zAa (zAd 2 (zAc (zCj (zB7 n cs e=0) (by omega) (zAb (zAa (zAd 3 (zAc (zAl (E_a [] an (PV.tup [PV.own 1 [],I (zB7 n cs e)]) ([]) rfl rfl)))))))))))))))))))))
theorem f29_1 (n:Nw) (cs:List (Int×Int)) (k:Nat) (ho:CrOk n cs) (hk:k≤1000) (he:zAV n cs (k+1)=zAV n cs k) (hm:∀ j,j<k→zAV n cs (j+1)≠zAV n cs j):FG 29 [nwV n,prs cs] (.tup [I k,I 0]):=by
 have hn:=ho.nw
 have kj:=ho.w
 have y6:=zPr (n:=n) (cs:=cs)
 refine zAf Tryz.f29 ?_
 refine zAb (zAa (zAd 3 (zAc (zAb (zAa (zAd 2 (S_a [(8,.ret (PV.tup [zDQ n cs,I 0]) ([]))] (ap (f99_1 (n) (cs) (by omega)) an) (zAd 5 (zAc (zAb (zAb (zAa (zAd 2 (zAc (zAU (zAi (zAb (zAa (zAd 1 (S_a [(5,.ret (hdV (zOo n cs)) ([]))] (ap (f100 (n) (cs) (by omega)) an) (zAd 3 (zAc (zAb (zAb (zAa (zAd 2 (S_a [(7,.ret (hdV (zCo n (zOo n cs))) ([]))] (ap (f101 (n) (cs) (zOo n cs) (by omega) (by omega)) an) (zAd 2 (zAc (zAh 0 ?_))))))))))))))))))))))))))))))
 refine zAo (fun j=>j≤k) (fun (j:Nat)=>[(8,I (j:Nat)),(9,.box (hdV (zAV n cs j))),(10,.box (hdV (zAV n cs (j+1))))]) (fun j=>k-j) (0:Nat) (by omega) fun j hj=>?_
 have wa:=zBB (n:=n) (cs:=cs) j
 have hl2:=zBB (n:=n) (cs:=cs) (j+1)
 by_cases wH:j<k
 ·have hI:=hm j wH
  refine zAb (zAb (zAa (zAd 2 (S_a [(0,.v (PV.bool !decide (zAV n cs (j+1)=zAV n cs j)))] (ap (zSn 80 (by omega) (by omega):zJH Tryz.prog BinOp.neq 130 (PV.agg (zAS (zAV n cs (j+1)) 80)) (PV.agg (zAS (zAV n cs j) 80))=some (PV.bool !decide (zAV n cs (j+1)=zAV n cs j))) an) (zAc (zCj (zAV n cs (j+1)=zAV n cs j) (by omega) (zAi (zAb (zAh 1 (zAb (zAa (zAd 2 (zAc (zAa (zAd 1 (S_a [(1,.v (I (↑(j+1):Int)))] (ap (wrN j) an) (zAd 1 (zAc (zAb (zAb (zAa (zAd 1 (zAc (zAa (zAd 2 (zAc (zAa (zAd 2 (S_a [(7,.ret (hdV (zCo n (zAV n cs (j+1)))) ([]))] (ap (f101 (n) (cs) (zAV n cs (j+1)) (by omega) (by omega)) an) (zAd 1 (zAc ?_)))))))))))))))))))))))))))))))
  exact ⟨j+1,by omega,by omega,by kernel_rfl,by kernel_rfl⟩
 ·have e:j=k:=by omega
  subst e
  refine zAb (zAb (zAa (zAd 2 (S_a [(0,.v (PV.bool !decide (zAV n cs (j+1)=zAV n cs j)))] (ap (zSn 80 (by omega) (by omega):zJH Tryz.prog BinOp.neq 130 (PV.agg (zAS (zAV n cs (j+1)) 80)) (PV.agg (zAS (zAV n cs j) 80))=some (PV.bool !decide (zAV n cs (j+1)=zAV n cs j))) an) (zAc (zEc (zAV n cs (j+1)=zAV n cs j) (by omega) (zAv 0 (zAb (zAa (zAd 3 (zAc (zAl (E_a [] an (PV.tup [I (↑j:Int),I 0]) ([]) rfl rfl)))))))))))))
theorem f29_2 (n:Nw) (cs:List (Int×Int)) (hs:Small n) (hl:cs.length<1000000) (ho:¬ zBw n cs=0):FG 29 [nwV n,prs cs] (.tup [I 0,I (zBw n cs)]):=by
 refine zAf Tryz.f29 ?_
 refine zAb (zAa (zAd 3 (zAc (zAb (zAa (zAd 2 (S_a [(8,.ret (PV.tup [PV.nilp,I (zBw n cs)]) ([]))] (ap (f99_2 (n) (cs) (by omega) (by omega) (by omega)) an) (zAd 5 (zAc (zAb (zAb (zAa (zAd 2 (zAc (zCj (zBw n cs=0) (by omega) (zAb (zAa (zAd 3 (zAc (zAl (E_a [] an (PV.tup [I 0,I (zBw n cs)]) ([]) rfl rfl)))))))))))))))))))))
def zO2 (n:Nw) (cs:List (Int×Int)) (k:Nat):Int:=(List.range k).foldl (fun a k=>if zBl n (zAV n cs k)=[] then a else (k:Int)+1) 0
theorem zFC {n:Nw} {cs:List (Int×Int)} {k:Nat}:zO2 n cs (k+1)=if zBl n (zAV n cs k)=[] then zO2 n cs k else (k:Int)+1:=by
 simp only [zO2,List.range_succ,List.foldl_append,List.foldl_cons,List.foldl_nil]
theorem f31_1 (n:Nw) (cs:List (Int×Int)) (ho:CrOk n cs):FG 31 [nwV n,prs cs] (.tup [if zBl n (zAV n cs 12)=[] then I (zO2 n cs 12) else I 0,if zBl n (zAV n cs 12)=[] then I 0 else I 6]):=by
 have hn:=ho.nw
 have kj:=ho.w
 refine zAf Tryz.f31 ?_
 refine zAb (zAa (zAd 3 (zAc (zAb (zAa (zAd 2 (S_a [(8,.ret (PV.tup [zDQ n cs,I 0]) ([]))] (ap (f99_1 (n) (cs) (by omega)) an) (zAd 5 (zAc (zAb (zAb (zAa (zAd 2 (zAc (zAU (zAi (zAb (zAa (zAd 1 (S_a [(5,.ret (hdV (zOo n cs)) ([]))] (ap (f100 (n) (cs) (by omega)) an) (zAd 3 (zAc (zAb (zAb (zAa (zAd 1 (zAc (zAh 0 ?_))))))))))))))))))))))))))))
 refine zAo (fun k=>k≤12) (fun (k:Nat)=>[(8,I (zO2 n cs k)),(9,.box (hdV (zAV n cs k))),(22,I (k:Nat))]) (fun k=>12-k) (0:Nat) (by omega) fun k hk=>?_
 have wa:=zBB (n:=n) (cs:=cs) k
 have qD:=zEU (w:=zAV n cs k) hn
 by_cases uO:k<12
 ·have yR:=zFC (n:=n) (cs:=cs) (k:=k)
  refine zAb (zAa (zAd 1 (zAc (zAb (zAL ((↑k:Int)<12) (by omega) (zAi (zAb (zAh 1 (zAb (zAa (zAd 2 (zAc (zAb (zAb (zAa (zAd 2 (S_a [(7,.ret (PV.own 2 (List.map prV (zBl n (zAV n cs k)))) ([]))] (ap (f91 (n) (cs) (zAV n cs k) (by omega) (by omega)) an) (S_a [(0,.n ((zBl n (zAV n cs k)).length))] (ap (lnS prV (zBl n (zAV n cs k))) an) (zAd 1 (zAc (zBU ((↑(zBl n (zAV n cs k)).length:Int)>0) (fun k1=>(zAa (zAd 1 (S_a [(1,.v (I (↑(k+1):Int)))] (ap (wrN k) an) (zAd 1 (zAc (zAa (zAd 2 (S_a [(7,.ret (hdV (zCo n (zAV n cs k))) ([]))] (ap (f101 (n) (cs) (zAV n cs k) (by omega) (by omega)) an) (zAd 1 (zAc (zAa (S_a [(1,.v (I (↑(k+1):Int)))] (ap (wrN k) an) (zAd 1 (zAc ?_))))))))))))))) (fun k1=>(zAi (zAa (zAd 2 (S_a [(7,.ret (hdV (zCo n (zAV n cs k))) ([]))] (ap (f101 (n) (cs) (zAV n cs k) (by omega) (by omega)) an) (zAd 1 (zAc (zAa (S_a [(1,.v (I (↑(k+1):Int)))] (ap (wrN k) an) (zAd 1 (zAc ?_))))))))))))))))))))))))))))))))
  ·rw [if_neg (by intro h;rw [h] at k1;simp at k1)] at yR
   exact ⟨k+1,by omega,by omega,by rw [yR];kernel_rfl,by kernel_rfl⟩
  ·rw [if_pos (List.eq_nil_of_length_eq_zero (by omega))] at yR
   exact ⟨k+1,by omega,by omega,by rw [yR];kernel_rfl,by kernel_rfl⟩
 ·have e:k=12:=by omega
  subst e
  refine zAb (zAa (zAd 1 (zAc (zAb (zAU (zAv 0 (zAb (zAb (zAa (zAd 2 (S_a [(7,.ret (PV.own 2 (List.map prV (zBl n (zAV n cs 12)))) ([]))] (ap (f91 (n) (cs) (zAV n cs 12) (by omega) (by omega)) an) (S_a [(0,.n ((zBl n (zAV n cs 12)).length))] (ap (lnS prV (zBl n (zAV n cs 12))) an) (zAd 1 (zAc (zBU ((↑(zBl n (zAV n cs 12)).length:Int)>0) (fun k0=>(zAb (zAa (zAd 2 (zAc (zAl (E_a [] an (PV.tup [I 0,I 6]) ([]) ?_ rfl))))))) (fun k0=>(zAi (zAb (zAa (zAd 3 (zAc (zAl (E_a [] an (PV.tup [I (zO2 n cs 12),I 0]) ([]) ?_ rfl)))))))))))))))))))))))
  ·have h:¬ zBl n (zAV n cs 12)=[]:=by intro h;rw [h] at k0;simp at k0
   rw [if_neg h,if_neg h]
  ·have h:zBl n (zAV n cs 12)=[]:=List.eq_nil_of_length_eq_zero (by omega)
   rw [if_pos h,if_pos h]
theorem f31_2 (n:Nw) (cs:List (Int×Int)) (hs:Small n) (hl:cs.length<1000000) (ho:¬ zBw n cs=0):FG 31 [nwV n,prs cs] (.tup [I 0,I (zBw n cs)]):=by
 refine zAf Tryz.f31 ?_
 refine zAb (zAa (zAd 3 (zAc (zAb (zAa (zAd 2 (S_a [(8,.ret (PV.tup [PV.nilp,I (zBw n cs)]) ([]))] (ap (f99_2 (n) (cs) (by omega) (by omega) (by omega)) an) (zAd 5 (zAc (zAb (zAb (zAa (zAd 2 (zAc (zCj (zBw n cs=0) (by omega) (zAb (zAa (zAd 3 (zAc (zAl (E_a [] an (PV.tup [I 0,I (zBw n cs)]) ([]) rfl rfl)))))))))))))))))))))
end Go.Eng
set_option maxRecDepth 10000
set_option maxHeartbeats 4000000
namespace Go.Eng
open Go Go.Proofs
theorem zSS {n:Nw} {cs:List (Int×Int)} {c:Int×Int} (h:CrW n cs) (hl:cs.length<1000) (hc:(0≤c.1∧c.1<n.n.length)∧(0≤c.2∧c.2<n.s.length)):CrW n (cs++[c]) :=
 ⟨h.nw,by simp;omega,fun x hx=>by
  rcases List.mem_append.1 hx with h1 | h1
  ·exact h.cs x h1
  ·rw [List.mem_singleton] at h1;subst h1;exact hc⟩
theorem zYt (n:Nw) (c:Int×Int):FG 171 [zDQ n [],prV c] (.box (zCw n (.own 2 (([]++[c]).map prV)) (mapM (n.l.map pr2)) (zAk n) (zA5 n))):=by
 refine zAf Tryz.f171 ?_
 refine zAb (zAa (zAd 2 (zAc (zAb (zAa (zAd 5 (zAc (zAb (zAa (zAd 4 (zAd 1 (zAd 4 (zAd 1 (zAd 1 (zAd 3 (zAc (zAb (zAa (zAd 1 (zAd 1 (zAd 4 (zAd 1 (zAc (zAb (zAa (zAd 1 (zAd 1 (zAd 5 (zAc (zAb (zAa (zAd 1 (zAc (zAl (E_a [] an ((PV.agg (I n.h::PV.sl (List.map prV n.l)::PV.sl (List.map ntV n.n)::PV.sl (List.map zAY n.s)::PV.own 2 [PV.agg [I c.fst,I c.snd]]::PV.map (List.map zBy (List.map pr2 n.l))::(zAS (zAk n) 8++zAS (zA5 n) 8))).box) ([]) rfl rfl)))))))))))))))))))))))))))))))))))
theorem zX2 (n:Nw) (c:Int×Int) (x0:Int×Int):FG 171 [zDQ n [x0],prV c] (.box (zCw n (.own 2 (([x0]++[c]).map prV)) (mapM (n.l.map pr2)) (zAk n) (zA5 n))):=by
 refine zAf Tryz.f171 ?_
 refine zAb (zAa (zAd 2 (zAc (zAb (zAa (zAd 5 (zAc (zAb (zAa (zAd 4 (zAd 1 (zAd 4 (zAd 1 (zAd 1 (zAd 3 (zAc (zAb (zAa (zAd 1 (zAd 1 (zAd 4 (zAd 1 (zAc (zAb (zAa (zAd 1 (zAd 1 (zAd 5 (zAc (zAb (zAa (zAd 1 (zAc (zAl (E_a [] an ((PV.agg (I n.h::PV.sl (List.map prV n.l)::PV.sl (List.map ntV n.n)::PV.sl (List.map zAY n.s)::PV.own 2 [PV.agg [I x0.fst,I x0.snd],PV.agg [I c.fst,I c.snd]]::PV.map (List.map zBy (List.map pr2 n.l))::(zAS (zAk n) 8++zAS (zA5 n) 8))).box) ([]) rfl rfl)))))))))))))))))))))))))))))))))))
theorem zXP (n:Nw) (c:Int×Int) (x0 x1:Int×Int):FG 171 [zDQ n [x0,x1],prV c] (.box (zCw n (.own 2 (([x0,x1]++[c]).map prV)) (mapM (n.l.map pr2)) (zAk n) (zA5 n))):=by
 refine zAf Tryz.f171 ?_
 refine zAb (zAa (zAd 2 (zAc (zAb (zAa (zAd 5 (zAc (zAb (zAa (zAd 4 (zAd 1 (zAd 4 (zAd 1 (zAd 1 (zAd 3 (zAc (zAb (zAa (zAd 1 (zAd 1 (zAd 4 (zAd 1 (zAc (zAb (zAa (zAd 1 (zAd 1 (zAd 5 (zAc (zAb (zAa (zAd 1 (zAc (zAl (E_a [] an ((PV.agg (I n.h::PV.sl (List.map prV n.l)::PV.sl (List.map ntV n.n)::PV.sl (List.map zAY n.s)::PV.own 2 [PV.agg [I x0.fst,I x0.snd],PV.agg [I x1.fst,I x1.snd],PV.agg [I c.fst,I c.snd]]::PV.map (List.map zBy (List.map pr2 n.l))::(zAS (zAk n) 8++zAS (zA5 n) 8))).box) ([]) rfl rfl)))))))))))))))))))))))))))))))))))
theorem zYg (n:Nw) (c:Int×Int) (x0 x1 x2:Int×Int):FG 171 [zDQ n [x0,x1,x2],prV c] (.box (zCw n (.own 2 (([x0,x1,x2]++[c]).map prV)) (mapM (n.l.map pr2)) (zAk n) (zA5 n))):=by
 refine zAf Tryz.f171 ?_
 refine zAb (zAa (zAd 2 (zAc (zAb (zAa (zAd 5 (zAc (zAb (zAa (zAd 4 (zAd 1 (zAd 4 (zAd 1 (zAd 1 (zAd 3 (zAc (zAb (zAa (zAd 1 (zAd 1 (zAd 4 (zAd 1 (zAc (zAb (zAa (zAd 1 (zAd 1 (zAd 5 (zAc (zAb (zAa (zAd 1 (zAc (zAl (E_a [] an ((PV.agg (I n.h::PV.sl (List.map prV n.l)::PV.sl (List.map ntV n.n)::PV.sl (List.map zAY n.s)::PV.own 2 [PV.agg [I x0.fst,I x0.snd],PV.agg [I x1.fst,I x1.snd],PV.agg [I x2.fst,I x2.snd],PV.agg [I c.fst,I c.snd]]::PV.map (List.map zBy (List.map pr2 n.l))::(zAS (zAk n) 8++zAS (zA5 n) 8))).box) ([]) rfl rfl)))))))))))))))))))))))))))))))))))
theorem zYT (n:Nw) (c:Int×Int) (x0 x1 x2 x3:Int×Int):FG 171 [zDQ n [x0,x1,x2,x3],prV c] (.box (zCw n (.own 2 (([x0,x1,x2,x3]++[c]).map prV)) (mapM (n.l.map pr2)) (zAk n) (zA5 n))):=by
 refine zAf Tryz.f171 ?_
 refine zAb (zAa (zAd 2 (zAc (zAb (zAa (zAd 5 (zAc (zAb (zAa (zAd 4 (zAd 1 (zAd 4 (zAd 1 (zAd 1 (zAd 3 (zAc (zAb (zAa (zAd 1 (zAd 1 (zAd 4 (zAd 1 (zAc (zAb (zAa (zAd 1 (zAd 1 (zAd 5 (zAc (zAb (zAa (zAd 1 (zAc (zAl (E_a [] an ((PV.agg (I n.h::PV.sl (List.map prV n.l)::PV.sl (List.map ntV n.n)::PV.sl (List.map zAY n.s)::PV.own 2 [PV.agg [I x0.fst,I x0.snd],PV.agg [I x1.fst,I x1.snd],PV.agg [I x2.fst,I x2.snd],PV.agg [I x3.fst,I x3.snd],PV.agg [I c.fst,I c.snd]]::PV.map (List.map zBy (List.map pr2 n.l))::(zAS (zAk n) 8++zAS (zA5 n) 8))).box) ([]) rfl rfl)))))))))))))))))))))))))))))))))))
theorem zYs (n:Nw) (c:Int×Int) (x0 x1 x2 x3 x4:Int×Int):FG 171 [zDQ n [x0,x1,x2,x3,x4],prV c] (.box (zCw n (.own 2 (([x0,x1,x2,x3,x4]++[c]).map prV)) (mapM (n.l.map pr2)) (zAk n) (zA5 n))):=by
 refine zAf Tryz.f171 ?_
 refine zAb (zAa (zAd 2 (zAc (zAb (zAa (zAd 5 (zAc (zAb (zAa (zAd 4 (zAd 1 (zAd 4 (zAd 1 (zAd 1 (zAd 3 (zAc (zAb (zAa (zAd 1 (zAd 1 (zAd 4 (zAd 1 (zAc (zAb (zAa (zAd 1 (zAd 1 (zAd 5 (zAc (zAb (zAa (zAd 1 (zAc (zAl (E_a [] an ((PV.agg (I n.h::PV.sl (List.map prV n.l)::PV.sl (List.map ntV n.n)::PV.sl (List.map zAY n.s)::PV.own 2 [PV.agg [I x0.fst,I x0.snd],PV.agg [I x1.fst,I x1.snd],PV.agg [I x2.fst,I x2.snd],PV.agg [I x3.fst,I x3.snd],PV.agg [I x4.fst,I x4.snd],PV.agg [I c.fst,I c.snd]]::PV.map (List.map zBy (List.map pr2 n.l))::(zAS (zAk n) 8++zAS (zA5 n) 8))).box) ([]) rfl rfl)))))))))))))))))))))))))))))))))))
theorem zX7 (n:Nw) (c:Int×Int) (x0 x1 x2 x3 x4 x5:Int×Int):FG 171 [zDQ n [x0,x1,x2,x3,x4,x5],prV c] (.box (zCw n (.own 2 (([x0,x1,x2,x3,x4,x5]++[c]).map prV)) (mapM (n.l.map pr2)) (zAk n) (zA5 n))):=by
 refine zAf Tryz.f171 ?_
 refine zAb (zAa (zAd 2 (zAc (zAb (zAa (zAd 5 (zAc (zAb (zAa (zAd 4 (zAd 1 (zAd 4 (zAd 1 (zAd 1 (zAd 3 (zAc (zAb (zAa (zAd 1 (zAd 1 (zAd 4 (zAd 1 (zAc (zAb (zAa (zAd 1 (zAd 1 (zAd 5 (zAc (zAb (zAa (zAd 1 (zAc (zAl (E_a [] an ((PV.agg (I n.h::PV.sl (List.map prV n.l)::PV.sl (List.map ntV n.n)::PV.sl (List.map zAY n.s)::PV.own 2 [PV.agg [I x0.fst,I x0.snd],PV.agg [I x1.fst,I x1.snd],PV.agg [I x2.fst,I x2.snd],PV.agg [I x3.fst,I x3.snd],PV.agg [I x4.fst,I x4.snd],PV.agg [I x5.fst,I x5.snd],PV.agg [I c.fst,I c.snd]]::PV.map (List.map zBy (List.map pr2 n.l))::(zAS (zAk n) 8++zAS (zA5 n) 8))).box) ([]) rfl rfl)))))))))))))))))))))))))))))))))))
theorem zYh (n:Nw) (c:Int×Int) (x0 x1 x2 x3 x4 x5 x6:Int×Int):FG 171 [zDQ n [x0,x1,x2,x3,x4,x5,x6],prV c] (.box (zCw n (.own 2 (([x0,x1,x2,x3,x4,x5,x6]++[c]).map prV)) (mapM (n.l.map pr2)) (zAk n) (zA5 n))):=by
 refine zAf Tryz.f171 ?_
 refine zAb (zAa (zAd 2 (zAc (zAb (zAa (zAd 5 (zAc (zAb (zAa (zAd 4 (zAd 1 (zAd 4 (zAd 1 (zAd 1 (zAd 3 (zAc (zAb (zAa (zAd 1 (zAd 1 (zAd 4 (zAd 1 (zAc (zAb (zAa (zAd 1 (zAd 1 (zAd 5 (zAc (zAb (zAa (zAd 1 (zAc (zAl (E_a [] an ((PV.agg (I n.h::PV.sl (List.map prV n.l)::PV.sl (List.map ntV n.n)::PV.sl (List.map zAY n.s)::PV.own 2 [PV.agg [I x0.fst,I x0.snd],PV.agg [I x1.fst,I x1.snd],PV.agg [I x2.fst,I x2.snd],PV.agg [I x3.fst,I x3.snd],PV.agg [I x4.fst,I x4.snd],PV.agg [I x5.fst,I x5.snd],PV.agg [I x6.fst,I x6.snd],PV.agg [I c.fst,I c.snd]]::PV.map (List.map zBy (List.map pr2 n.l))::(zAS (zAk n) 8++zAS (zA5 n) 8))).box) ([]) rfl rfl)))))))))))))))))))))))))))))))))))
theorem zY6 (n:Nw) (c:Int×Int) (x0 x1 x2 x3 x4 x5 x6 x7:Int×Int):FG 171 [zDQ n [x0,x1,x2,x3,x4,x5,x6,x7],prV c] (.box (zCw n (.own 2 (([x0,x1,x2,x3,x4,x5,x6,x7]++[c]).map prV)) (mapM (n.l.map pr2)) (zAk n) (zA5 n))):=by
 refine zAf Tryz.f171 ?_
 refine zAb (zAa (zAd 2 (zAc (zAb (zAa (zAd 5 (zAc (zAb (zAa (zAd 4 (zAd 1 (zAd 4 (zAd 1 (zAd 1 (zAd 3 (zAc (zAb (zAa (zAd 1 (zAd 1 (zAd 4 (zAd 1 (zAc (zAb (zAa (zAd 1 (zAd 1 (zAd 5 (zAc (zAb (zAa (zAd 1 (zAc (zAl (E_a [] an ((PV.agg (I n.h::PV.sl (List.map prV n.l)::PV.sl (List.map ntV n.n)::PV.sl (List.map zAY n.s)::PV.own 2 [PV.agg [I x0.fst,I x0.snd],PV.agg [I x1.fst,I x1.snd],PV.agg [I x2.fst,I x2.snd],PV.agg [I x3.fst,I x3.snd],PV.agg [I x4.fst,I x4.snd],PV.agg [I x5.fst,I x5.snd],PV.agg [I x6.fst,I x6.snd],PV.agg [I x7.fst,I x7.snd],PV.agg [I c.fst,I c.snd]]::PV.map (List.map zBy (List.map pr2 n.l))::(zAS (zAk n) 8++zAS (zA5 n) 8))).box) ([]) rfl rfl)))))))))))))))))))))))))))))))))))
theorem zYX (n:Nw) (c:Int×Int) (x0 x1 x2 x3 x4 x5 x6 x7 x8:Int×Int):FG 171 [zDQ n [x0,x1,x2,x3,x4,x5,x6,x7,x8],prV c] (.box (zCw n (.own 2 (([x0,x1,x2,x3,x4,x5,x6,x7,x8]++[c]).map prV)) (mapM (n.l.map pr2)) (zAk n) (zA5 n))):=by
 refine zAf Tryz.f171 ?_
 refine zAb (zAa (zAd 2 (zAc (zAb (zAa (zAd 5 (zAc (zAb (zAa (zAd 4 (zAd 1 (zAd 4 (zAd 1 (zAd 1 (zAd 3 (zAc (zAb (zAa (zAd 1 (zAd 1 (zAd 4 (zAd 1 (zAc (zAb (zAa (zAd 1 (zAd 1 (zAd 5 (zAc (zAb (zAa (zAd 1 (zAc (zAl (E_a [] an ((PV.agg (I n.h::PV.sl (List.map prV n.l)::PV.sl (List.map ntV n.n)::PV.sl (List.map zAY n.s)::PV.own 2 [PV.agg [I x0.fst,I x0.snd],PV.agg [I x1.fst,I x1.snd],PV.agg [I x2.fst,I x2.snd],PV.agg [I x3.fst,I x3.snd],PV.agg [I x4.fst,I x4.snd],PV.agg [I x5.fst,I x5.snd],PV.agg [I x6.fst,I x6.snd],PV.agg [I x7.fst,I x7.snd],PV.agg [I x8.fst,I x8.snd],PV.agg [I c.fst,I c.snd]]::PV.map (List.map zBy (List.map pr2 n.l))::(zAS (zAk n) 8++zAS (zA5 n) 8))).box) ([]) rfl rfl)))))))))))))))))))))))))))))))))))
theorem zXC (n:Nw) (c:Int×Int) (x0 x1 x2 x3 x4 x5 x6 x7 x8 x9:Int×Int):FG 171 [zDQ n [x0,x1,x2,x3,x4,x5,x6,x7,x8,x9],prV c] (.box (zCw n (.own 2 (([x0,x1,x2,x3,x4,x5,x6,x7,x8,x9]++[c]).map prV)) (mapM (n.l.map pr2)) (zAk n) (zA5 n))):=by
 refine zAf Tryz.f171 ?_
 refine zAb (zAa (zAd 2 (zAc (zAb (zAa (zAd 5 (zAc (zAb (zAa (zAd 4 (zAd 1 (zAd 4 (zAd 1 (zAd 1 (zAd 3 (zAc (zAb (zAa (zAd 1 (zAd 1 (zAd 4 (zAd 1 (zAc (zAb (zAa (zAd 1 (zAd 1 (zAd 5 (zAc (zAb (zAa (zAd 1 (zAc (zAl (E_a [] an ((PV.agg (I n.h::PV.sl (List.map prV n.l)::PV.sl (List.map ntV n.n)::PV.sl (List.map zAY n.s)::PV.own 2 [PV.agg [I x0.fst,I x0.snd],PV.agg [I x1.fst,I x1.snd],PV.agg [I x2.fst,I x2.snd],PV.agg [I x3.fst,I x3.snd],PV.agg [I x4.fst,I x4.snd],PV.agg [I x5.fst,I x5.snd],PV.agg [I x6.fst,I x6.snd],PV.agg [I x7.fst,I x7.snd],PV.agg [I x8.fst,I x8.snd],PV.agg [I x9.fst,I x9.snd],PV.agg [I c.fst,I c.snd]]::PV.map (List.map zBy (List.map pr2 n.l))::(zAS (zAk n) 8++zAS (zA5 n) 8))).box) ([]) rfl rfl)))))))))))))))))))))))))))))))))))
theorem zXF (n:Nw) (c:Int×Int) (x0 x1 x2 x3 x4 x5 x6 x7 x8 x9 x10:Int×Int):FG 171 [zDQ n [x0,x1,x2,x3,x4,x5,x6,x7,x8,x9,x10],prV c] (.box (zCw n (.own 2 (([x0,x1,x2,x3,x4,x5,x6,x7,x8,x9,x10]++[c]).map prV)) (mapM (n.l.map pr2)) (zAk n) (zA5 n))):=by
 refine zAf Tryz.f171 ?_
 refine zAb (zAa (zAd 2 (zAc (zAb (zAa (zAd 5 (zAc (zAb (zAa (zAd 4 (zAd 1 (zAd 4 (zAd 1 (zAd 1 (zAd 3 (zAc (zAb (zAa (zAd 1 (zAd 1 (zAd 4 (zAd 1 (zAc (zAb (zAa (zAd 1 (zAd 1 (zAd 5 (zAc (zAb (zAa (zAd 1 (zAc (zAl (E_a [] an ((PV.agg (I n.h::PV.sl (List.map prV n.l)::PV.sl (List.map ntV n.n)::PV.sl (List.map zAY n.s)::PV.own 2 [PV.agg [I x0.fst,I x0.snd],PV.agg [I x1.fst,I x1.snd],PV.agg [I x2.fst,I x2.snd],PV.agg [I x3.fst,I x3.snd],PV.agg [I x4.fst,I x4.snd],PV.agg [I x5.fst,I x5.snd],PV.agg [I x6.fst,I x6.snd],PV.agg [I x7.fst,I x7.snd],PV.agg [I x8.fst,I x8.snd],PV.agg [I x9.fst,I x9.snd],PV.agg [I x10.fst,I x10.snd],PV.agg [I c.fst,I c.snd]]::PV.map (List.map zBy (List.map pr2 n.l))::(zAS (zAk n) 8++zAS (zA5 n) 8))).box) ([]) rfl rfl)))))))))))))))))))))))))))))))))))
theorem zXu (n:Nw) (c:Int×Int) (x0 x1 x2 x3 x4 x5 x6 x7 x8 x9 x10 x11:Int×Int):FG 171 [zDQ n [x0,x1,x2,x3,x4,x5,x6,x7,x8,x9,x10,x11],prV c] (.box (zCw n (.own 2 (([x0,x1,x2,x3,x4,x5,x6,x7,x8,x9,x10,x11]++[c]).map prV)) (mapM (n.l.map pr2)) (zAk n) (zA5 n))):=by
 refine zAf Tryz.f171 ?_
 refine zAb (zAa (zAd 2 (zAc (zAb (zAa (zAd 5 (zAc (zAb (zAa (zAd 4 (zAd 1 (zAd 4 (zAd 1 (zAd 1 (zAd 3 (zAc (zAb (zAa (zAd 1 (zAd 1 (zAd 4 (zAd 1 (zAc (zAb (zAa (zAd 1 (zAd 1 (zAd 5 (zAc (zAb (zAa (zAd 1 (zAc (zAl (E_a [] an ((PV.agg (I n.h::PV.sl (List.map prV n.l)::PV.sl (List.map ntV n.n)::PV.sl (List.map zAY n.s)::PV.own 2 [PV.agg [I x0.fst,I x0.snd],PV.agg [I x1.fst,I x1.snd],PV.agg [I x2.fst,I x2.snd],PV.agg [I x3.fst,I x3.snd],PV.agg [I x4.fst,I x4.snd],PV.agg [I x5.fst,I x5.snd],PV.agg [I x6.fst,I x6.snd],PV.agg [I x7.fst,I x7.snd],PV.agg [I x8.fst,I x8.snd],PV.agg [I x9.fst,I x9.snd],PV.agg [I x10.fst,I x10.snd],PV.agg [I x11.fst,I x11.snd],PV.agg [I c.fst,I c.snd]]::PV.map (List.map zBy (List.map pr2 n.l))::(zAS (zAk n) 8++zAS (zA5 n) 8))).box) ([]) rfl rfl)))))))))))))))))))))))))))))))))))
theorem zWZ (n:Nw) (c:Int×Int) (x0 x1 x2 x3 x4 x5 x6 x7 x8 x9 x10 x11 x12:Int×Int):FG 171 [zDQ n [x0,x1,x2,x3,x4,x5,x6,x7,x8,x9,x10,x11,x12],prV c] (.box (zCw n (.own 2 (([x0,x1,x2,x3,x4,x5,x6,x7,x8,x9,x10,x11,x12]++[c]).map prV)) (mapM (n.l.map pr2)) (zAk n) (zA5 n))):=by
 refine zAf Tryz.f171 ?_
 refine zAb (zAa (zAd 2 (zAc (zAb (zAa (zAd 5 (zAc (zAb (zAa (zAd 4 (zAd 1 (zAd 4 (zAd 1 (zAd 1 (zAd 3 (zAc (zAb (zAa (zAd 1 (zAd 1 (zAd 4 (zAd 1 (zAc (zAb (zAa (zAd 1 (zAd 1 (zAd 5 (zAc (zAb (zAa (zAd 1 (zAc (zAl (E_a [] an ((PV.agg (I n.h::PV.sl (List.map prV n.l)::PV.sl (List.map ntV n.n)::PV.sl (List.map zAY n.s)::PV.own 2 [PV.agg [I x0.fst,I x0.snd],PV.agg [I x1.fst,I x1.snd],PV.agg [I x2.fst,I x2.snd],PV.agg [I x3.fst,I x3.snd],PV.agg [I x4.fst,I x4.snd],PV.agg [I x5.fst,I x5.snd],PV.agg [I x6.fst,I x6.snd],PV.agg [I x7.fst,I x7.snd],PV.agg [I x8.fst,I x8.snd],PV.agg [I x9.fst,I x9.snd],PV.agg [I x10.fst,I x10.snd],PV.agg [I x11.fst,I x11.snd],PV.agg [I x12.fst,I x12.snd],PV.agg [I c.fst,I c.snd]]::PV.map (List.map zBy (List.map pr2 n.l))::(zAS (zAk n) 8++zAS (zA5 n) 8))).box) ([]) rfl rfl)))))))))))))))))))))))))))))))))))
theorem zWY (n:Nw) (c:Int×Int) (x0 x1 x2 x3 x4 x5 x6 x7 x8 x9 x10 x11 x12 x13:Int×Int):FG 171 [zDQ n [x0,x1,x2,x3,x4,x5,x6,x7,x8,x9,x10,x11,x12,x13],prV c] (.box (zCw n (.own 2 (([x0,x1,x2,x3,x4,x5,x6,x7,x8,x9,x10,x11,x12,x13]++[c]).map prV)) (mapM (n.l.map pr2)) (zAk n) (zA5 n))):=by
 refine zAf Tryz.f171 ?_
 refine zAb (zAa (zAd 2 (zAc (zAb (zAa (zAd 5 (zAc (zAb (zAa (zAd 4 (zAd 1 (zAd 4 (zAd 1 (zAd 1 (zAd 3 (zAc (zAb (zAa (zAd 1 (zAd 1 (zAd 4 (zAd 1 (zAc (zAb (zAa (zAd 1 (zAd 1 (zAd 5 (zAc (zAb (zAa (zAd 1 (zAc (zAl (E_a [] an ((PV.agg (I n.h::PV.sl (List.map prV n.l)::PV.sl (List.map ntV n.n)::PV.sl (List.map zAY n.s)::PV.own 2 [PV.agg [I x0.fst,I x0.snd],PV.agg [I x1.fst,I x1.snd],PV.agg [I x2.fst,I x2.snd],PV.agg [I x3.fst,I x3.snd],PV.agg [I x4.fst,I x4.snd],PV.agg [I x5.fst,I x5.snd],PV.agg [I x6.fst,I x6.snd],PV.agg [I x7.fst,I x7.snd],PV.agg [I x8.fst,I x8.snd],PV.agg [I x9.fst,I x9.snd],PV.agg [I x10.fst,I x10.snd],PV.agg [I x11.fst,I x11.snd],PV.agg [I x12.fst,I x12.snd],PV.agg [I x13.fst,I x13.snd],PV.agg [I c.fst,I c.snd]]::PV.map (List.map zBy (List.map pr2 n.l))::(zAS (zAk n) 8++zAS (zA5 n) 8))).box) ([]) rfl rfl)))))))))))))))))))))))))))))))))))
theorem zWO (n:Nw) (c:Int×Int) (x0 x1 x2 x3 x4 x5 x6 x7 x8 x9 x10 x11 x12 x13 x14:Int×Int):FG 171 [zDQ n [x0,x1,x2,x3,x4,x5,x6,x7,x8,x9,x10,x11,x12,x13,x14],prV c] (.box (zCw n (.own 2 (([x0,x1,x2,x3,x4,x5,x6,x7,x8,x9,x10,x11,x12,x13,x14]++[c]).map prV)) (mapM (n.l.map pr2)) (zAk n) (zA5 n))):=by
 refine zAf Tryz.f171 ?_
 refine zAb (zAa (zAd 2 (zAc (zAb (zAa (zAd 5 (zAc (zAb (zAa (zAd 4 (zAd 1 (zAd 4 (zAd 1 (zAd 1 (zAd 3 (zAc (zAb (zAa (zAd 1 (zAd 1 (zAd 4 (zAd 1 (zAc (zAb (zAa (zAd 1 (zAd 1 (zAd 5 (zAc (zAb (zAa (zAd 1 (zAc (zAl (E_a [] an ((PV.agg (I n.h::PV.sl (List.map prV n.l)::PV.sl (List.map ntV n.n)::PV.sl (List.map zAY n.s)::PV.own 2 [PV.agg [I x0.fst,I x0.snd],PV.agg [I x1.fst,I x1.snd],PV.agg [I x2.fst,I x2.snd],PV.agg [I x3.fst,I x3.snd],PV.agg [I x4.fst,I x4.snd],PV.agg [I x5.fst,I x5.snd],PV.agg [I x6.fst,I x6.snd],PV.agg [I x7.fst,I x7.snd],PV.agg [I x8.fst,I x8.snd],PV.agg [I x9.fst,I x9.snd],PV.agg [I x10.fst,I x10.snd],PV.agg [I x11.fst,I x11.snd],PV.agg [I x12.fst,I x12.snd],PV.agg [I x13.fst,I x13.snd],PV.agg [I x14.fst,I x14.snd],PV.agg [I c.fst,I c.snd]]::PV.map (List.map zBy (List.map pr2 n.l))::(zAS (zAk n) 8++zAS (zA5 n) 8))).box) ([]) rfl rfl)))))))))))))))))))))))))))))))))))
theorem zWU (n:Nw) (c:Int×Int) (x0 x1 x2 x3 x4 x5 x6 x7 x8 x9 x10 x11 x12 x13 x14 x15:Int×Int):FG 171 [zDQ n [x0,x1,x2,x3,x4,x5,x6,x7,x8,x9,x10,x11,x12,x13,x14,x15],prV c] (.box (zCw n (.own 2 (([x0,x1,x2,x3,x4,x5,x6,x7,x8,x9,x10,x11,x12,x13,x14,x15]++[c]).map prV)) (mapM (n.l.map pr2)) (zAk n) (zA5 n))):=by
 refine zAf Tryz.f171 ?_
 refine zAb (zAa (zAd 2 (zAc (zAb (zAa (zAd 5 (zAc (zAb (zAa (zAd 4 (zAd 1 (zAd 4 (zAd 1 (zAd 1 (zAd 3 (zAc (zAb (zAa (zAd 1 (zAd 1 (zAd 4 (zAd 1 (zAc (zAb (zAa (zAd 1 (zAd 1 (zAd 5 (zAc (zAb (zAa (zAd 1 (zAc (zAl (E_a [] an ((PV.agg (I n.h::PV.sl (List.map prV n.l)::PV.sl (List.map ntV n.n)::PV.sl (List.map zAY n.s)::PV.own 2 [PV.agg [I x0.fst,I x0.snd],PV.agg [I x1.fst,I x1.snd],PV.agg [I x2.fst,I x2.snd],PV.agg [I x3.fst,I x3.snd],PV.agg [I x4.fst,I x4.snd],PV.agg [I x5.fst,I x5.snd],PV.agg [I x6.fst,I x6.snd],PV.agg [I x7.fst,I x7.snd],PV.agg [I x8.fst,I x8.snd],PV.agg [I x9.fst,I x9.snd],PV.agg [I x10.fst,I x10.snd],PV.agg [I x11.fst,I x11.snd],PV.agg [I x12.fst,I x12.snd],PV.agg [I x13.fst,I x13.snd],PV.agg [I x14.fst,I x14.snd],PV.agg [I x15.fst,I x15.snd],PV.agg [I c.fst,I c.snd]]::PV.map (List.map zBy (List.map pr2 n.l))::(zAS (zAk n) 8++zAS (zA5 n) 8))).box) ([]) rfl rfl)))))))))))))))))))))))))))))))))))
theorem f171 (n:Nw) (cs:List (Int×Int)) (c:Int×Int) (hl:cs.length≤16):FG 171 [zDQ n cs,prV c] (.box (zCw n (.own 2 ((cs++[c]).map prV)) (mapM (n.l.map pr2)) (zAk n) (zA5 n))):=by
 match cs,hl with
 | [],_=>exact zYt n c 
 | [x0],_=>exact zX2 n c x0
 | [x0,x1],_=>exact zXP n c x0 x1
 | [x0,x1,x2],_=>exact zYg n c x0 x1 x2
 | [x0,x1,x2,x3],_=>exact zYT n c x0 x1 x2 x3
 | [x0,x1,x2,x3,x4],_=>exact zYs n c x0 x1 x2 x3 x4
 | [x0,x1,x2,x3,x4,x5],_=>exact zX7 n c x0 x1 x2 x3 x4 x5
 | [x0,x1,x2,x3,x4,x5,x6],_=>exact zYh n c x0 x1 x2 x3 x4 x5 x6
 | [x0,x1,x2,x3,x4,x5,x6,x7],_=>exact zY6 n c x0 x1 x2 x3 x4 x5 x6 x7
 | [x0,x1,x2,x3,x4,x5,x6,x7,x8],_=>exact zYX n c x0 x1 x2 x3 x4 x5 x6 x7 x8
 | [x0,x1,x2,x3,x4,x5,x6,x7,x8,x9],_=>exact zXC n c x0 x1 x2 x3 x4 x5 x6 x7 x8 x9
 | [x0,x1,x2,x3,x4,x5,x6,x7,x8,x9,x10],_=>exact zXF n c x0 x1 x2 x3 x4 x5 x6 x7 x8 x9 x10
 | [x0,x1,x2,x3,x4,x5,x6,x7,x8,x9,x10,x11],_=>exact zXu n c x0 x1 x2 x3 x4 x5 x6 x7 x8 x9 x10 x11
 | [x0,x1,x2,x3,x4,x5,x6,x7,x8,x9,x10,x11,x12],_=>exact zWZ n c x0 x1 x2 x3 x4 x5 x6 x7 x8 x9 x10 x11 x12
 | [x0,x1,x2,x3,x4,x5,x6,x7,x8,x9,x10,x11,x12,x13],_=>exact zWY n c x0 x1 x2 x3 x4 x5 x6 x7 x8 x9 x10 x11 x12 x13
 | [x0,x1,x2,x3,x4,x5,x6,x7,x8,x9,x10,x11,x12,x13,x14],_=>exact zWO n c x0 x1 x2 x3 x4 x5 x6 x7 x8 x9 x10 x11 x12 x13 x14
 | [x0,x1,x2,x3,x4,x5,x6,x7,x8,x9,x10,x11,x12,x13,x14,x15],_=>exact zWU n c x0 x1 x2 x3 x4 x5 x6 x7 x8 x9 x10 x11 x12 x13 x14 x15
 | _::_::_::_::_::_::_::_::_::_::_::_::_::_::_::_::_::_,h=>simp at h
def zWr (n:Nw) (w:List Int) (g:Int×Int):Bool:=decide (w.getD (g.1.toNat*8+((zAk n).getD g.2.toNat 0).toNat) 0≠g.2)
def zID (n:Nw) (w:List Int) (l:List (Int×Int)):List (Int×Int):=l.filter (zWr n w)
theorem zUl {n:Nw} {w:List Int} {l:List (Int×Int)} {i:Nat} (hi:i<l.length):zID n w (l.take (i+1))=if zWr n w (l.getD i default)=true then zID n w (l.take i)++[l.getD i default] else zID n w (l.take i):=by
 unfold zID;rw [zBO (d:=default) hi,List.filter_append]
 split
 ·rw [List.filter_cons_of_pos (by assumption)];rfl
 ·rw [List.filter_cons_of_neg (by assumption)];simp
theorem f119 (n:Nw) (cs l:List (Int×Int)) (e:Int) (c:Int×Int) (ho:CrW n cs) (hl:cs.length≤16) (he:0≤e∧e≤1000) (qn:l.length≤1000) (hm:∀ g∈l,(0≤g.1∧g.1<n.h)∧(0≤g.2∧g.2<n.n.length)) (hc:(0≤c.1∧c.1<n.n.length)∧(0≤c.2∧c.2<n.s.length)):FG 119 [zDQ n cs,prs l,I e,prV c] (.own 2 ((zID n (zAV n (cs++[c]) e.toNat) l).map prV)):=by
 have hw:=zSS ho (by omega) hc
 have hb:=ho.nw.h
 have hn:=ho.nw
 have uH:=hn.nl
 have hwl:=zBB (n:=n) (cs:=cs++[c]) e.toNat
 have ha:=f92 n (cs++[c]) e hw he
 generalize zAV n (cs++[c]) e.toNat=w at *
 refine zAf Tryz.f119 ?_
 refine zAb (zAa (zAd 2 (zAc (zAb (zAa (zAd 2 (S_a [(7,.ret ((zCw n (PV.own 2 (List.map prV (cs++[c]))) (mapM (List.map pr2 n.l)) (zAk n) (zA5 n)).box) ([]))] (ap (f171 (n) (cs) (c) (by omega)) an) (zAd 1 (S_a [(7,.v (PV.agg (I n.h::PV.sl (List.map prV n.l)::PV.sl (List.map ntV n.n)::PV.sl (List.map zAY n.s)::PV.sl (List.map prV (cs++[c]))::PV.map (List.map zBy (List.map pr2 n.l))::(zAS (zAk n) 8++zAS (zA5 n) 8)))),(4,.ret (hdV w) ([]))] (ap ((by simp only [show zAB (List.map prV (cs++[c]))=List.map prV (cs++[c]) from (by first | exact zBN _ | exact zCZ _ | exact zCi _ | exact zCR (zCZ _) | exact zCR (zCi _) | exact zKT (by simp [zEO]) (zBN _))]):PV.agg (I n.h::PV.sl (List.map prV n.l)::PV.sl (List.map ntV n.n)::PV.sl (List.map zAY n.s)::PV.sl (zAB (List.map prV (cs++[c])))::PV.map (List.map zBy (List.map pr2 n.l))::(zAS (zAk n) 8++zAS (zA5 n) 8))=PV.agg (I n.h::PV.sl (List.map prV n.l)::PV.sl (List.map ntV n.n)::PV.sl (List.map zAY n.s)::PV.sl (List.map prV (cs++[c]))::PV.map (List.map zBy (List.map pr2 n.l))::(zAS (zAk n) 8++zAS (zA5 n) 8))) (ap (ha) an)) (zAd 2 (zAc (zAb (zAa (zAd 1 (zAc (zAb (zAb (zAa (zAd 1 (S_a [(0,.n (l.length))] (ap (lnS prV l) an) (zAd 1 (zAc (zAh 0 ?_)))))))))))))))))))))))
 refine zAo (fun (i,q)=>i≤l.length∧q=zID n w (l.take i)) (fun (i,q)=>[(10,.own 2 (q.map prV)),(20,I (i:Nat))]) (fun (i,_)=>l.length-i) ((0:Nat),([]:List (Int×Int))) ⟨by omega,by simp [zID]⟩ fun (i,q) ⟨hi,hq⟩=>?_
 have uQ:q.length≤i:=by
  rw [hq,zID];exact Nat.le_trans (List.length_filter_le _ _) (by rw [List.length_take];omega)
 by_cases yC:i<l.length
 ·have yg:=zUl (n:=n) (w:=w) yC
  rw [← hq] at yg
  obtain ⟨kP,v6⟩:=zBC (d:=default) hm i yC
  have LC:=zCf hn (l.getD i default).2.toNat (by omega)
  clear hm ha hq
  refine zAb (zAa (zAd 1 (zAc (zAb (zAL ((↑i:Int)<(↑l.length:Int)) (by omega) (zAi (zAb (zAh 1 (zAb (zAa (S_a [(2,.v (PV.agg [I (l.getD i default).fst,I (l.getD i default).snd]))] (ap (zBA (default) (by omega):(List.map prV l)[i]? = some (PV.agg [I (l.getD i default).fst,I (l.getD i default).snd])) an) (zAd 3 (zAc (zAb (zAa (zAd 7 (S_a [(0,.ob),(1,.ob),(0,.v ((I ((zAk n).getD (l.getD i default).snd.toNat 0)).ref))] (ap ((by exact zAp (by omega)):decide (0≤(l.getD i default).snd)=true) (ap ((by exact zAp (by omega)):decide ((l.getD i default).snd.toNat<8)=true) (ap (zGw (F:=zAk n) (m:=8) (j:=(l.getD i default).snd.toNat) (by omega):zCb (PV.agg (zAS (zAk n) 8)).ref ((l.getD i default).snd.toNat*(fun x=>x.size) Tryz.prog.types[3]) none=some (I ((zAk n).getD (l.getD i default).snd.toNat 0)).ref) an))) (zAd 1 (S_a [(0,.ob),(1,.ob)] (ap ((by exact zAp (by omega)):decide (0≤(l.getD i default).fst)=true) (ap ((by exact zAp (by omega)):decide ((l.getD i default).fst.toNat<10)=true) an)) (S_a [(0,.ob),(1,.ob)] (ap ((by exact zAp (by omega)):decide (0≤(zAk n).getD (l.getD i default).snd.toNat 0)=true) (ap ((by exact zAp (by omega)):decide (((zAk n).getD (l.getD i default).snd.toNat 0).toNat<8)=true) an)) (S_a [(0,.cs true ([I (w.getD ((l.getD i default).fst.toNat*8+((zAk n).getD (l.getD i default).snd.toNat 0).toNat) 0)]))] (ap (zDk (q:=(PV.agg (zAS w 80)).box) (xs:=[PV.agg (zAS w 80)]) (x:=PV.agg (zAS w 80)) rfl rfl (zE7 (F:=w) (m:=80) (j:=(l.getD i default).fst.toNat*8+((zAk n).getD (l.getD i default).snd.toNat 0).toNat) (by first | rfl | exact zBZ (by kernel_rfl) | exact zBW (by kernel_rfl) | exact zDF (by kernel_rfl) (by kernel_rfl) | exact zDI (by kernel_rfl) | exact zDU (by kernel_rfl) (by kernel_rfl) | exact zDG (by kernel_rfl) | (simp;done)) (by omega)):zAt 9 (PV.agg (zAS w 80)).box [] 0 (0+(l.getD i default).fst.toNat*(fun x=>x.size) Tryz.prog.types[128]+((zAk n).getD (l.getD i default).snd.toNat 0).toNat*(fun x=>x.size) Tryz.prog.types[3]) 1=some (true,[I (w.getD ((l.getD i default).fst.toNat*8+((zAk n).getD (l.getD i default).snd.toNat 0).toNat) 0)])) an) (zAd 3 (zAc (zC6 (w.getD ((l.getD i default).fst.toNat*8+((zAk n).getD (l.getD i default).snd.toNat 0).toNat) 0=(l.getD i default).snd) (fun k0=>(zAa (zAd 3 (S_a [(4,.ob),(0,.ob),(0,.yes),(2,.v (PV.own 2 (List.map prV (q++[l.getD i default]))))] (ap (blz (List.map prV q)) (ap ((by exact zBs (by simp only [List.length_map,zzLn,zA1]<;>omega)):((List.map prV q).length + [PV.agg [I (l.getD i default).fst,I (l.getD i default).snd]].length).ble zA1=true) (ap ((by exact zBr (by simp<;>omega)):(0+(List.map prV q).length).beq (List.map prV q).length=true) (ap ((zAR (zCv (by kernel_rfl))):PV.own 2 (List.map prV q++[PV.agg [I (l.getD i default).fst,I (l.getD i default).snd]])=PV.own 2 (List.map prV (q++[l.getD i default]))) an)))) (zAd 1 (zAc (zAa (S_a [(1,.v (I (↑(i+1):Int)))] (ap (wrN i) an) (zAd 1 (zAc ?_)))))))))) (fun k0=>(zAi (zAa (S_a [(1,.v (I (↑(i+1):Int)))] (ap (wrN i) an) (zAd 1 (zAc ?_))))))))))))))))))))))))))))))
  ·have hb:zWr n w (l.getD i default)=true:=by simp only [zWr,decide_eq_true_eq];exact k0
   rw [if_pos hb] at yg
   exact ⟨(i+1,q++[l.getD i default]),⟨by omega,yg.symm⟩,by simp only;omega,by kernel_rfl,by kernel_rfl⟩
  ·have hb:zWr n w (l.getD i default)=false:=by simp only [zWr,decide_eq_false_iff_not];exact fun h=>h k0
   rw [if_neg (by rw [hb];simp)] at yg
   exact ⟨(i+1,q),⟨by omega,yg.symm⟩,by simp only;omega,by kernel_rfl,by kernel_rfl⟩
 ·refine zAb (zAa (zAd 1 (zAc (zAb (zAO ((↑i:Int)<(↑l.length:Int)) (by omega) (zAv 0 (zAb (zAa (zAd 1 (S_a [(2,.yes)] (ap ((by exact zBr (by simp<;>omega)):(Nat.beq 0 0&&(List.map prV q).length.beq (List.map prV q).length)=true) an) (zAc (zAl (E_a [(1,.yes),(1,.v (PV.own 2 (List.map prV q)))] (ap (blz (List.map prV q)) (ap ((zAR zAK):PV.own 2 (List.take (List.map prV q).length (List.drop 0 (List.map prV q)))=PV.own 2 (List.map prV q)) an)) (PV.own 2 (List.map prV q)) ([]) ?_ rfl)))))))))))))
  rw [List.take_of_length_le (by omega)] at hq
  rw [hq]
end Go.Eng
set_option maxRecDepth 10000
set_option maxHeartbeats 4000000
namespace Go.Eng
open Go Go.Proofs
theorem zTU {α:Type} (φ:α→Bool) (l:List α):(zES φ l = -1→l.filter (fun x => !φ x)=l)∧(zES φ l≠-1→∃ i:Nat,zES φ l=i∧i<l.length∧l.take i=(l.take (i+1)).filter (fun x => !φ x)):=by
 constructor
 ·intro h
  have:l.any φ=false:=by rw [← zEe,h];rfl
  rw [List.filter_eq_self]
  intro x hx
  rw [List.any_eq_false] at this
  simpa using this x hx
 ·intro h
  unfold zES at h ⊢
  split
  ·rename_i yJ
   refine ⟨_,rfl,yJ,?_⟩
   have hp:=List.findIdx_getElem (w:=yJ)
   rw [List.take_add_one,List.getElem?_eq_getElem yJ,List.filter_append]
   simp only [Option.toList,List.filter_cons,hp,Bool.not_true,Bool.false_eq_true,if_false,List.filter_nil,List.append_nil]
   symm
   rw [List.filter_eq_self]
   intro x hx
   obtain ⟨j,hj,rfl⟩:=List.mem_take_iff_getElem.1 hx
   have:=List.not_of_lt_findIdx (show j<l.findIdx φ by omega)
   simpa using this
  ·rename_i hn;rw [if_neg hn] at h;exact absurd rfl h
theorem zK8 {α:Type} {S:List α} {p:Nat} {x:α} (h:p<S.length):(S.set p x).take (p+1)=S.take p++[x]:=by
 rw [zBO (d:=x) (by simpa using h),List.take_set_of_le (Nat.le_refl p)]
 simp [List.getD_eq_getElem?_getD,h]
theorem zNP {α:Type} {S:List α} {i j:Nat} {x d:α} (h:i≠j):(S.set i x).getD j d=S.getD j d:=by
 simp [List.getD_eq_getElem?_getD,List.getElem?_set,h]
theorem zOj {α:Type} (p:α→Bool) (l:List α) (j:Nat) (d:α) (h:j<l.length):(l.take (j+1)).filter p=if p (l.getD j d)=true then (l.take j).filter p++[l.getD j d] else (l.take j).filter p:=by
 rw [zBO (d:=d) h,List.filter_append]
 split
 ·rw [List.filter_cons_of_pos (by assumption)];rfl
 ·rw [List.filter_cons_of_neg (by assumption)];simp
theorem f189 (n:Nw) (cs:List (Int×Int)) (f:Int) (ho:NwOk n) (g:Int×Int) (hg:0≤g.2∧g.2<n.n.length):FG 189 [prV g,.ref (zDQ n cs),.ref (I f)] (.bool (decide ((zAk n).getD g.2.toNat 0≠f))):=by
 have uH:=ho.nl
 refine zAf Tryz.f189 ?_
 refine zAb (zAa (zAd 2 (zAc (zAb (zAa (zAd 5 (S_a [(0,.ob),(1,.ob),(0,.v ((I ((zAk n).getD g.snd.toNat 0)).ref))] (ap ((by exact zAp (by omega)):decide (0≤g.snd)=true) (ap ((by exact zAp (by omega)):decide (g.snd.toNat<8)=true) (ap (zGw (F:=zAk n) (m:=8) (j:=g.snd.toNat) (by omega):zCb (PV.agg (zAS (zAk n) 8)).ref (g.snd.toNat*(fun x=>x.size) Tryz.prog.types[3]) none=some (I ((zAk n).getD g.snd.toNat 0)).ref) an))) (zAd 4 (zAc (zAl (E_a [] an (PV.bool ((zAk n).getD g.snd.toNat 0 != f)) ([]) ?_ rfl)))))))))))
 congr 1;rw [Bool.eq_iff_iff];simp
theorem f174_1 (n:Nw) (cs:List (Int×Int)) (f:Int) (ho:NwOk n) (l:List (Int×Int)) (hl:l.length<4294967296) (hr:∀ x∈l,(fun z:Int×Int=>0≤z.2∧z.2<n.n.length) x):FG 174 [.sl (l.map prV),.func 189 [] [.ref (zDQ n cs),.ref (I f)]] (I (zES (fun x=>decide ((zAk n).getD x.2.toNat 0≠f)) l)):=by
 refine zAf Tryz.f174 ?_
 refine zAb (zAa (zAd 1 (zAc (zAb (zAb (zAa (zAd 1 (S_a [(0,.n (l.length))] (ap (lnS prV l) an) (zAd 1 (zAc (zAh 0 ?_)))))))))))
 refine zAo (fun i=>i≤l.length∧∀ j,j<i→(fun x=>decide ((zAk n).getD x.2.toNat 0≠f)) (l.getD j default)=false) (fun i=>[(8,I (i:Nat))]) (fun i=>l.length-i) (0:Nat) (by simp) fun i ⟨hi,ha⟩=>?_
 by_cases yC:i<l.length
 ·have ql:=zBC (d:=default) hr i yC
  refine zAb (zAa (zAd 1 (zAc (zAb (zAL ((↑i:Int)<(↑l.length:Int)) (by omega) (zAi (zAb (zAh 1 (zAb (zAa (zAd 2 (zAc (zAb (zAa (zAd 3 (S_a [(2,.v (PV.agg [I (l.getD i default).fst,I (l.getD i default).snd]))] (ap (zBA (default) (by omega):(List.map prV l)[i]? = some (PV.agg [I (l.getD i default).fst,I (l.getD i default).snd])) an) (zAd 1 (S_a [(8,.ret (PV.bool (decide ((zAk n).getD (l.getD i default).snd.toNat 0≠f))) ([]))] (ap (f189 (n) (cs) (f) (by omega) (l.getD i default) (by omega)) an) (zAc (zBU ((zAk n).getD (l.getD i default).snd.toNat 0≠f) (fun k0=>(zAb (zAa (zAd 2 (zAc (zAl (E_a [] an (I (↑i:Int)) ([]) ?_ rfl))))))) (fun k0=>(zAi (zAa (S_a [(1,.v (I (↑(i+1):Int)))] (ap (wrN i) an) (zAd 1 (zAc ?_))))))))))))))))))))))))))
  ·rw [zBY (i:=i) yC (fun j hj=>by rw [← zAr (d:=default)];exact ha j hj) (by rw [← zAr (d:=default)];first | assumption | exact decide_eq_true ‹_›)]
  ·refine ⟨i+1,⟨by omega,fun j hj=>?_⟩,by omega,by kernel_rfl,by kernel_rfl⟩
   rcases Nat.lt_succ_iff_lt_or_eq.1 hj with h | rfl
   ·exact ha j h
   ·first | assumption | exact decide_eq_false ‹_› | (simp only [Bool.not_eq_false',decide_eq_true_eq];assumption)
 ·refine zAb (zAa (zAd 1 (zAc (zAb (zAO ((↑i:Int)<(↑l.length:Int)) (by omega) (zAv 0 (zAb (zAa (zAd 1 (zAc (zAl (E_a [] an (I (-1)) ([]) ?_ rfl))))))))))))
  rw [zCl fun j hj=>by rw [← zAr (d:=default)];exact ha j (by omega)]
theorem f122_1 (n:Nw) (cs:List (Int×Int)) (f:Int) (ho:NwOk n) (l:List (Int×Int)) (hl:l.length<4294967296) (hr:∀ x∈l,(fun z:Int×Int=>0≤z.2∧z.2<n.n.length) x):FG 122 [.own 2 (l.map prV),.func 189 [] [.ref (zDQ n cs),.ref (I f)]] (.own 2 ((l.filter fun x => !(decide ((zAk n).getD x.2.toNat 0≠f))).map prV)):=by
 have h1:=zTU (fun x=>decide ((zAk n).getD x.2.toNat 0≠f)) l
 have uI:=f174_1 n cs f ho l hl hr
 by_cases hm:zES (fun x=>decide ((zAk n).getD x.2.toNat 0≠f)) l = -1
 ·rw [hm] at uI
  rw [h1.1 hm]
  refine zAf Tryz.f122 ?_
  refine zAb (zAa (zAd 1 (zAc (zAb (zAa (zAd 2 (S_a [(3,.ob),(0,.v (PV.sl (List.map prV l))),(3,.ret (I (-1)) ([]))] (ap (blz (List.map prV l)) (ap (frT prV l) (ap (uI) an))) (zAd 1 (zAc (zAb (zAb (zAa (zAd 2 (zAc (zBT (zAb (zAa (zAd 1 (S_a [(2,.yes)] (ap ((by exact zBr (by simp<;>omega)):(Nat.beq 0 0&&(List.map prV l).length.beq (List.map prV l).length)=true) an) (zAc (zAl (E_a [(1,.yes),(1,.v (PV.own 2 (List.map prV l)))] (ap (blz (List.map prV l)) (ap ((zAR zAK):PV.own 2 (List.take (List.map prV l).length (List.drop 0 (List.map prV l)))=PV.own 2 (List.map prV l)) an)) (PV.own 2 (List.map prV l)) ([]) rfl rfl))))))))))))))))))))))
 ·obtain ⟨i0,je,hil0,hf0⟩:=h1.2 hm
  rw [je] at uI
  clear h1 hm
  refine zAf Tryz.f122 ?_
  refine zAb (zAa (zAd 1 (zAc (zAb (zAa (zAd 2 (S_a [(3,.ob),(0,.v (PV.sl (List.map prV l))),(3,.ret (I (↑i0:Int)) ([]))] (ap (blz (List.map prV l)) (ap (frT prV l) (ap (uI) an))) (zAd 1 (zAc (zAb (zAb (zAa (zAd 2 (zAc (zAU (zAi (zAb (zAb (zAa (zAd 1 (S_a [(1,.v (I (↑(i0+1):Int)))] (ap (wrN i0) an) (zAd 1 (zAc (zAh 0 ?_))))))))))))))))))))))))
  refine zAo (fun (i,j,S)=>j≤l.length∧i<j∧S.length=l.length∧S.take i=(l.take j).filter (fun x => !(decide ((zAk n).getD x.2.toNat 0≠f)))∧∀ r,j≤r→S.getD r default=l.getD r default) (fun (i,j,S)=>[(0,.own 2 (S.map prV)),(5,I (i:Nat)),(6,I (j:Nat))]) (fun (_,j,_)=>l.length-j) (i0,i0+1,l) ⟨by omega,by omega,rfl,hf0,fun _ _=>rfl⟩ fun (i,j,S) ⟨hj,qm,hS,ht,hd⟩=>?_
  by_cases jb:j<l.length
  ·have ql:=zBC (d:=default) hr j jb
   have hx:=hd j (Nat.le_refl j)
   have yE:=zOj (fun x => !(decide ((zAk n).getD x.2.toNat 0≠f))) l j default jb
   rw [← hx] at yE ql
   clear uI
   have gQ:=hd
   clear hd hx
   refine zAb (zAb (zAa (zAd 2 (S_a [(0,.n (S.length))] (ap (lnS prV S) an) (zAd 1 (zAc (zAL ((↑j:Int)<(↑S.length:Int)) (by omega) (zAi (zAb (zAh 1 (zAb (zAa (zAd 2 (S_a [(2,.ob),(1,.n (j))] (ap ((by exact zAp (by simp only [List.length_map,zzLn]<;>omega)):decide (j<(List.map prV S).length)=true) (ap ((by simp):some (0+j)=some j) an)) (S_a [(0,.cs true ([I (S.getD j default).fst,I (S.getD j default).snd]))] (ap (zDk (q:=PV.own 2 (List.map prV S)) (xs:=List.map prV S) (x:=PV.agg [I (S.getD j default).fst,I (S.getD j default).snd]) rfl (zBA (default) (by omega)):zAt 0 (PV.own 2 (List.map prV S)) [] j 0 Tryz.prog.types[108].size=some (true,[I (S.getD j default).fst,I (S.getD j default).snd])) an) (zAd 2 (zAc (zAb (zAa (zAd 2 (S_a [(8,.ret (PV.bool (decide ((zAk n).getD (S.getD j default).snd.toNat 0≠f))) ([]))] (ap (f189 (n) (cs) (f) (by omega) (S.getD j default) (by omega)) an) (zAd 1 (zAc (zC6 ((zAk n).getD (S.getD j default).snd.toNat 0≠f) (fun k0=>(zAb (zAa (zAd 3 (S_a [(2,.ob),(1,.n (i))] (ap ((by exact zAp (by simp only [List.length_map,zzLn]<;>omega)):decide (i<(List.map prV S).length)=true) (ap ((by simp):some (0+i)=some i) an)) (S_a [(8,.root (PV.own 2 (List.map prV (S.set i (S.getD j default)))) true)] (ap (zQm (zBA (default) (by omega)) zGf:zBx (PV.own 2 (List.map prV S)) [] i 0 (PV.agg [I (S.getD j default).fst,I (S.getD j default).snd]).cells=some (PV.own 2 (List.map prV (S.set i (S.getD j default))))∧zAD (PV.own 2 (List.map prV S)) (PV.own 2 (List.map prV (S.set i (S.getD j default)))) []=true) an) (zAc (zAa (zAd 1 (S_a [(1,.v (I (↑(i+1):Int)))] (ap (wrN i) an) (zAd 1 (zAc (zAa (zAd 1 (S_a [(1,.v (I (↑(j+1):Int)))] (ap (wrN j) an) (zAd 1 (zAc ?_))))))))))))))))) (fun k0=>(zAi (zAa (zAd 1 (S_a [(1,.v (I (↑(j+1):Int)))] (ap (wrN j) an) (zAd 1 (zAc ?_)))))))))))))))))))))))))))))))
   ·have hb:((fun x => !(decide ((zAk n).getD x.2.toNat 0≠f))) (S.getD j default))=true:=by first | assumption | (simp only [Bool.not_eq_true',decide_eq_false_iff_not];assumption)
    rw [if_pos hb] at yE
    refine ⟨(i+1,j+1,S.set i (S.getD j default)),⟨by omega,by omega,by simpa using hS,?_,fun r qo=>?_⟩,by simp only;omega,by kernel_rfl,by kernel_rfl⟩
    ·rw [yE,← ht,zK8 (by omega)]
    ·rw [zNP (by omega)];exact gQ r (by omega)
   ·have hb:((fun x => !(decide ((zAk n).getD x.2.toNat 0≠f))) (S.getD j default))=false:=by first | assumption | (simp only [Bool.not_eq_false',decide_eq_true_eq];assumption)
    rw [if_neg (fun h=>Bool.noConfusion (hb.symm.trans h))] at yE
    exact ⟨(i,j+1,S),⟨by omega,by omega,hS,by rw [yE,ht],fun r qo=>gQ r (by omega)⟩,by simp only;omega,by kernel_rfl,by kernel_rfl⟩
  ·refine zAb (zAb (zAa (zAd 2 (S_a [(0,.n (S.length))] (ap (lnS prV S) an) (zAd 1 (zAc (zAO ((↑j:Int)<(↑S.length:Int)) (by omega) (zAv 0 (zAb (zAa (zAd 2 (S_a [(3,.ob),(0,.yes),(0,.yes),(0,.v (PV.bor 0 [] 2 i (S.length-i)))] (ap ((by exact zBs (by simp only [List.length_map,zzLn,zA1]<;>omega)):i.ble (List.map prV S).length=true) (ap ((by exact zBs (by simp only [List.length_map,zzLn,zA1]<;>omega)):(List.map prV S).length.ble (List.map prV S).length=true) (ap ((by simp<;>omega):(i.beq 0||i.blt (List.map prV S).length)=true) (ap ((by simp):PV.bor 0 [] 2 (0+i) ((List.map prV S).length-i)=PV.bor 0 [] 2 i (S.length-i)) an)))) (zSe (g:=prV) (fun q=>q) 0 2 (i) (S.length-i) (S) ((0,0)) (by first | omega | (simp<;>omega)) ⟨rfl,rfl⟩ (fun _=>(by first | exact zF2 | exact ⟨rfl,rfl,rfl,rfl,Nat.le_refl _,rfl⟩)) zNR.nil (zAc (zAb (zAa (zAd 2 (S_a [(4,.yes)] (ap ((by exact zBs (by simp<;>omega)):i.ble (List.map prV (List.take i S++List.replicate (S.length-i) (0,0)++List.drop (i+(S.length-i)) S)).length=true) an) (zAd 1 (zAc (zAl (E_a [(1,.yes),(1,.v (PV.own 2 (List.map prV (List.take i (List.take i S++List.replicate (S.length-i) (0,0)++List.drop (i+(S.length-i)) S)))))] (ap ((by exact zBs (by simp<;>omega)):(0+((↑i:Int).toNat-0)).ble (List.map prV (List.take i S++List.replicate (S.length-i) (0,0)++List.drop (i+(S.length-i)) S)).length=true) (ap ((by simp):PV.own 2 (List.take i (List.drop 0 (List.map prV (List.take i S++List.replicate (S.length-i) (0,0)++List.drop (i+(S.length-i)) S))))=PV.own 2 (List.map prV (List.take i (List.take i S++List.replicate (S.length-i) (0,0)++List.drop (i+(S.length-i)) S)))) an)) (PV.own 2 (List.map prV (List.take i (List.take i S++List.replicate (S.length-i) (0,0)++List.drop (i+(S.length-i)) S)))) ([]) ?_ rfl))))))))))))))))))))))
   rw [List.take_of_length_le (Nat.le_of_not_lt jb)] at ht
   rw [← ht,List.append_assoc,List.take_append_of_le_length (by rw [List.length_take];omega),List.take_take,Nat.min_self]
def ofL (n:Nw) (f:Int) (l:List (Int×Int)):List (Int×Int):=l.filter fun x => !decide ((zAk n).getD x.2.toNat 0≠f)
theorem f135 (n:Nw) (cs l:List (Int×Int)) (f:Int) (ho:NwOk n) (hl:l.length≤1000) (hr:∀ g∈l,(0≤g.1∧g.1<n.h)∧(0≤g.2∧g.2<n.n.length)):FG 135 [zDQ n cs,prs l,I f] (.own 2 ((ofL n f l).map prV)):=by
 have h1:=f122_1 n cs f ho l (by omega) fun x hx=>(hr x hx).2
 refine zAf Tryz.f135 ?_
 refine zAb (zAa (zAd 3 (zAc (zAb (zAa (zAd 1 (S_a [(6,.ret (PV.own 2 (List.map prV l)) ([]))] (ap (f123 (l) (by omega)) an) (zAd 1 (S_a [(3,.ob),(1,.v (PV.own 2 (List.map prV l))),(14,.ret (PV.own 2 (List.map prV (List.filter (fun x => !decide ((zAk n).getD x.snd.toNat 0≠f)) l))) ([])),(1,.yes)] (ap ((by exact zBs (by simp only [List.length_map,zzLn,zA1]<;>omega)):(List.map prV l).length.ble (List.map prV l).length=true) (ap ((zAR zAK):PV.own 2 (List.take (List.map prV l).length (List.drop 0 (List.map prV l)))=PV.own 2 (List.map prV l)) (ap (h1) (ap ((by exact zDE _):(PV.own 2 (List.map prV (List.filter (fun x => !decide ((zAk n).getD x.snd.toNat 0≠f)) l))).free=true) an)))) (zAd 1 (zAc (zAl (E_a [(1,.yes),(1,.v (PV.own 2 (List.map prV (List.filter (fun x => !decide ((zAk n).getD x.snd.toNat 0≠f)) l))))] (ap (blz (List.map prV (List.filter (fun x => !decide ((zAk n).getD x.snd.toNat 0≠f)) l))) (ap ((zAR zAK):PV.own 2 (List.take (List.map prV (List.filter (fun x => !decide ((zAk n).getD x.snd.toNat 0≠f)) l)).length (List.drop 0 (List.map prV (List.filter (fun x => !decide ((zAk n).getD x.snd.toNat 0≠f)) l))))=PV.own 2 (List.map prV (List.filter (fun x => !decide ((zAk n).getD x.snd.toNat 0≠f)) l))) an)) (PV.own 2 (List.map prV (List.filter (fun x => !decide ((zAk n).getD x.snd.toNat 0≠f)) l))) ([]) rfl rfl)))))))))))))
end Go.Eng
set_option maxRecDepth 10000
set_option maxHeartbeats 4000000
namespace Go.Eng
open Go Go.Proofs
def zWB (n:Nw) (cs:List (Int×Int)) (e:Int) (st:List Int):Int:=if zB7 n cs e=0 then if (!st.all fun x=>inB x 0 (n.s.length-1))=true then 1 else if st.Nodup then 0 else 5 else zB7 n cs e
structure OffOk (n:Nw) (cs:List (Int×Int)) (e:Int) (st:List Int):Prop where
 err:zWB n cs e st=0
 ev:EvOk n cs e
 rng:∀ s∈st,0≤s∧s<n.s.length
 nd:st.Nodup
abbrev zYA (n:Nw) (cs:List (Int×Int)) (e:Int) (l:List (Int×Int)):PV := .func 173 [] [.ref (zDQ n cs),.ref (prs l),.ref (I e)]
theorem f168_2 (n:Nw) (hb:n.s.length≤6) (x:Int):FG 168 [I x,.ref (.func 170 [nwV n] [])] (.bool (!(inB x 0 (n.s.length-1)))):=by
 refine zAf Tryz.f168 ?_
 refine zAb (zAa (zAd 1 (zAc (zAb (zAa (zAd 2 (S_a [(8,.ret (PV.bool (inB x 0 ((↑n.s.length:Int)-1))) ([]))] (ap (f170 (n) (x) (by omega)) an) (zAd 2 (zAc (zAl (E_a [] an (PV.bool !inB x 0 ((↑n.s.length:Int)-1)) ([]) rfl rfl)))))))))))
theorem f131_2 (n:Nw) (hb:n.s.length≤6) (l:List (Int)) (hl:l.length<4294967296):FG 131 [.sl (l.map I),.func 168 [] [.ref (.func 170 [nwV n] [])]] (I (zES (fun x => !(inB x 0 (n.s.length-1))) l)):=by
 refine zAf Tryz.f131 ?_
 refine zAb (zAa (zAd 1 (zAc (zAb (zAb (zAa (zAd 1 (S_a [(0,.n (l.length))] (ap (lnS I l) an) (zAd 1 (zAc (zAh 0 ?_)))))))))))
 refine zAo (fun i=>i≤l.length∧∀ j,j<i→(fun x => !(inB x 0 (n.s.length-1))) (l.getD j 0)=false) (fun i=>[(8,I (i:Nat))]) (fun i=>l.length-i) (0:Nat) (by simp) fun i ⟨hi,ha⟩=>?_
 refine zAb (zAa (zAd 1 (zAc (zAb (zBU ((↑i:Int)<(↑l.length:Int)) (fun k0=>(zAi (zAb (zAh 1 (zAb (zAa (zAd 2 (zAc (zAb (zAa (zAd 3 (S_a [(2,.v (I (l.getD i 0)))] (ap (zBA (0) (by omega):(List.map I l)[i]? = some (I (l.getD i 0))) an) (zAd 1 (S_a [(7,.ret (PV.bool !inB (l.getD i 0) 0 ((↑n.s.length:Int)-1)) ([]))] (ap (f168_2 (n) (by omega) (l.getD i 0)) an) (zAc (zD4 (!inB (l.getD i 0) 0 ((↑n.s.length:Int)-1)) (fun k1=>(zAb (zAa (zAd 2 (zAc (zAl (E_a [] an (I (↑i:Int)) ([]) ?_ rfl))))))) (fun k1=>(zAi (zAa (S_a [(1,.v (I (↑(i+1):Int)))] (ap (wrN i) an) (zAd 1 (zAc ?_)))))))))))))))))))))) (fun k0=>(zAv 0 (zAb (zAa (zAd 1 (zAc (zAl (E_a [] an (I (-1)) ([]) ?_ rfl)))))))))))))
 ·rw [zBY (i:=i) (by omega) (fun j hj=>by rw [← zAr (d:=0)];exact ha j hj) (by rw [← zAr (d:=0)];first | assumption | exact decide_eq_true ‹_› | (simp only [Bool.not_eq_true',decide_eq_false_iff_not];assumption))]
 ·refine ⟨i+1,⟨by omega,fun j hj=>?_⟩,by omega,by kernel_rfl,by kernel_rfl⟩
  rcases Nat.lt_succ_iff_lt_or_eq.1 hj with h | rfl
  ·exact ha j h
  ·first | assumption | exact decide_eq_false ‹_› | (simp only [Bool.not_eq_false',decide_eq_true_eq];first | assumption | (apply Decidable.of_not_not;assumption))
 ·rw [zCl fun j hj=>by rw [← zAr (d:=0)];exact ha j (by omega)]
theorem f52_2 (n:Nw) (hb:n.s.length≤6) (l:List (Int)) (hl:l.length<4294967296):FG 52 [.sl (l.map I),.func 168 [] [.ref (.func 170 [nwV n] [])]] (.bool (l.any (fun x => !(inB x 0 (n.s.length-1))))):=by
 refine zAf Tryz.f52 ?_
 refine zAb (zAa (zAd 1 (zAc (zAb (zAa (zAd 2 (S_a [(7,.ret (I (zES (fun x => !inB x 0 ((↑n.s.length:Int)-1)) l)) ([]))] (ap (f131_2 (n) (by omega) (l) (by omega)) an) (zAd 2 (zAc (zAl (E_a [] an (PV.bool (decide (zES (fun x => !inB x 0 ((↑n.s.length:Int)-1)) l≥0))) ([]) ?_ rfl)))))))))))
 rw [zEe]
theorem f108_2 (n:Nw) (hb:n.s.length≤6) (l:List (Int)) (hl:l.length<4294967296):FG 108 [.sl (l.map I),.func 170 [nwV n] []] (.bool (l.all (fun x=>inB x 0 (n.s.length-1)))):=by
 refine zAf Tryz.f108 ?_
 refine zAb (zAa (zAd 2 (zAc (zAb (zAa (zAd 2 (S_a [(12,.ret (PV.bool (l.any fun x => !inB x 0 ((↑n.s.length:Int)-1))) ([]))] (ap (f52_2 (n) (by omega) (l) (by omega)) an) (zAd 2 (zAc (zAl (E_a [] an (PV.bool !l.any fun x => !inB x 0 ((↑n.s.length:Int)-1)) ([]) ?_ rfl)))))))))))
 simp [List.not_any_eq_all_not]
theorem f121_1 (n:Nw) (cs:List (Int×Int)) (e:Int) (st:List Int) (ho:OffOk n cs e st) (yE:st.length<1000000):FG 121 [nwV n,prs cs,I e,zAY st] (.tup [zDQ n cs,prs (zBl n (zAV n cs e.toNat)),.agg [zYA n cs e (zBl n (zAV n cs e.toNat))],I 0]):=by
 have ja:=ho.ev
 have wY:=ja.cr
 have kj:=wY.w
 have hn:=wY.nw
 have he:=ja.ev
 have hs6:=hn.sl.2
 have hwl:=zBB (n:=n) (cs:=cs) e.toNat
 have qD:=zEU (w:=zAV n cs e.toNat) hn
 have hin:(!st.all fun x=>inB x 0 (n.s.length-1))=false:=by
  simp only [Bool.not_eq_false',List.all_eq_true]
  intro s hs;have:=ho.rng s hs
  simp only [inB,Bool.and_eq_true,decide_eq_true_eq];omega
 refine zAf Tryz.f121 ?_
 refine zAb (zAa (zAd 6 (zAc (zAb (zAa (zAd 3 (S_a [(10,.ret (PV.tup [zDQ n cs,I 0]) ([]))] (ap (f90_1 (n) (cs) (e) (by omega)) an) (zAd 6 (zAc (zAb (zAh 0 (zAb (zAa (zAd 3 (zAc (zAU (zAb (zAa (zAd 3 (S_a [(7,.ret (PV.bool (st.all fun x=>inB x 0 ((↑n.s.length:Int)-1))) ([]))] (ap (f108_2 (n) (by omega) (st) (by omega)) an) (zAd 2 (zAc (zD4 (!st.all fun x=>inB x 0 ((↑n.s.length:Int)-1)) (fun k0=>(zAb (zAa (zAd 5 (zAc (zAl (E_a [] an (PV.tup [PV.nilp,PV.sl [],PV.agg [PV.nilf],I 1]) ([]) ?_ rfl))))))) (fun k0=>(zAi (zAb (zAb (zAa (zAd 1 (S_a [(0,.n (st.length))] (ap (lnS I st) an) (zAd 1 (zAc (zAh 1 ?_)))))))))))))))))))))))))))))))))
 ·rw [hin] at k0;cases k0
 ·refine zAo (fun i=>i≤st.length) (fun (i:Nat)=>[(38,I (i:Nat))]) (fun i=>st.length-i) (0:Nat) (by omega) fun i hi=>?_
  by_cases yC:i<st.length
  ·have kE:has (st.take i) (st.getD i 0)=false:=by
    rw [zNq,decide_eq_false_iff_not]
    intro hm
    have yX:=ho.nd
    rw [← List.take_append_drop i st,List.nodup_append] at yX
    refine yX.2.2 _ hm _ ?_ rfl
    rw [List.drop_eq_getElem_cons yC,zAr yC];exact List.mem_cons_self
   refine zAb (zAa (zAd 1 (zAc (zAb (zAL ((↑i:Int)<(↑st.length:Int)) (by omega) (zAi (zAb (zAh 2 (zAb (zAa (zAd 1 (S_a [(2,.v (I (st.getD i 0)))] (ap (zBA (0) (by omega):(List.map I st)[i]? = some (I (st.getD i 0))) an) (zAd 3 (zAc (zAb (zAa (zAd 2 (S_a [(3,.ob),(0,.ob),(0,.v (PV.sl (List.map I (List.take i st))))] (ap ((by exact zBs (by simp only [List.length_map,zzLn,zA1]<;>omega)):i.ble (List.map I st).length=true) (ap ((by exact all_map _):((List.map I st).all fun x=>x.cells.length.beq ((fun x=>x.size) Tryz.prog.types[3]))=true) (ap ((by simp):PV.sl (List.take i (List.drop 0 (List.map I st)))=PV.sl (List.map I (List.take i st))) an))) (zAd 1 (S_a [(8,.ret (PV.bool (has (List.take i st) (st.getD i 0))) ([]))] (ap (f58 (List.take i st) (st.getD i 0) (by first | omega | (simp<;>omega))) an) (zAc (zD4 (has (List.take i st) (st.getD i 0)) (fun k1=>(zAb (zAa (zAd 5 (zAc (zAl (E_a [] an (PV.tup [PV.nilp,PV.sl [],PV.agg [PV.nilf],I 5]) ([]) ?_ rfl))))))) (fun k1=>(zAi (zAa (S_a [(1,.v (I (↑(i+1):Int)))] (ap (wrN i) an) (zAd 1 (zAc ?_))))))))))))))))))))))))))))
   ·rw [kE] at k1;cases k1
   ·exact ⟨i+1,by omega,by omega,by kernel_rfl,by kernel_rfl⟩
  ·refine zAb (zAa (zAd 1 (zAc (zAb (zAO ((↑i:Int)<(↑st.length:Int)) (by omega) (zAv 1 (zAb (zAa (zAd 3 (S_a [(7,.ret (hdV (zAV n cs e.toNat)) ([]))] (ap (f92 (n) (cs) (e) (by omega) (by omega)) an) (S_a [(7,.ret (PV.own 2 (List.map prV (zBl n (zAV n cs e.toNat)))) ([]))] (ap (f91 (n) (cs) (zAV n cs e.toNat) (by omega) (by omega)) an) (zAd 1 (S_a [(3,.v (PV.sl (List.map prV (zBl n (zAV n cs e.toNat)))))] (ap ((zRh (zBN _)):PV.sl (zAB (List.map prV (zBl n (zAV n cs e.toNat))))=PV.sl (List.map prV (zBl n (zAV n cs e.toNat)))) an) (zAc (zAb (zAa (zAd 8 (zAc (zAl (E_a [] an (PV.tup [(PV.agg (I n.h::PV.sl (List.map prV n.l)::PV.sl (List.map ntV n.n)::PV.sl (List.map zAY n.s)::PV.sl (List.map prV cs)::PV.map (List.map zBy (List.map pr2 n.l))::(zAS (zAk n) 8++zAS (zA5 n) 8))).ref,PV.sl (List.map prV (zBl n (zAV n cs e.toNat))),PV.agg [PV.func 173 [] [(PV.agg (I n.h::PV.sl (List.map prV n.l)::PV.sl (List.map ntV n.n)::PV.sl (List.map zAY n.s)::PV.sl (List.map prV cs)::PV.map (List.map zBy (List.map pr2 n.l))::(zAS (zAk n) 8++zAS (zA5 n) 8))).ref.ref,(PV.sl (List.map prV (zBl n (zAV n cs e.toNat)))).ref,(I e).ref]],I 0]) ([]) rfl rfl))))))))))))))))))))
theorem f173 (n:Nw) (cs l:List (Int×Int)) (e:Int) (c:Int×Int) (ho:CrW n cs) (hl:cs.length≤16) (he:0≤e∧e≤1000) (qn:l.length≤1000) (hm:∀ g∈l,(0≤g.1∧g.1<n.h)∧(0≤g.2∧g.2<n.n.length)) (hc:(0≤c.1∧c.1<n.n.length)∧(0≤c.2∧c.2<n.s.length)):FG 173 [prV c,.ref (zDQ n cs),.ref (prs l),.ref (I e)] (.sl ((zID n (zAV n (cs++[c]) e.toNat) l).map prV)):=by
 refine zAf Tryz.f173 ?_
 refine zAb (zAa (zAd 2 (zAc (zAb (zAa (zAd 4 (S_a [(11,.ret (PV.own 2 (List.map prV (zID n (zAV n (cs++[c]) e.toNat) l))) ([]))] (ap (f119 (n) (cs) (l) (e) (c) (by omega) (by omega) (by omega) (by omega) (by omega) (by omega)) an) (zAd 1 (zAc (zAl (E_a [(1,.envv ([(4,(PV.agg [I c.fst,I c.snd]).box),(5,PV.sl (List.map prV (zID n (zAV n (cs++[c]) e.toNat) l)))]) (PV.sl (List.map prV (zID n (zAV n (cs++[c]) e.toNat) l))))] (ap (And.intro (Eq.trans (by kernel_rfl:Env.frz [(4,(PV.agg [I c.fst,I c.snd]).box),(5,PV.own 2 (List.map prV (zID n (zAV n (cs++[c]) e.toNat) l)))] 5 []=some [(4,(PV.agg [I c.fst,I c.snd]).box),(5,PV.sl (zAB (List.map prV (zID n (zAV n (cs++[c]) e.toNat) l))))]) ((by simp only [show zAB (List.map prV (zID n (zAV n (cs++[c]) e.toNat) l))=List.map prV (zID n (zAV n (cs++[c]) e.toNat) l) from (by first | exact zBN _ | exact zCZ _ | exact zCi _ | exact zCR (zCZ _) | exact zCR (zCi _) | exact zKT (by simp [zEO]) (zBN _))]):some [(4,(PV.agg [I c.fst,I c.snd]).box),(5,PV.sl (zAB (List.map prV (zID n (zAV n (cs++[c]) e.toNat) l))))]=some [(4,(PV.agg [I c.fst,I c.snd]).box),(5,PV.sl (List.map prV (zID n (zAV n (cs++[c]) e.toNat) l)))])) (zVX (by first | exact zBN _ | exact zCZ _ | exact zCi _):PV.mapW (inl 5 [] (PV.own 2 (List.map prV (zID n (zAV n (cs++[c]) e.toNat) l)))) (PV.bor 5 [] 2 0 (List.map prV (zID n (zAV n (cs++[c]) e.toNat) l)).length)=PV.sl (List.map prV (zID n (zAV n (cs++[c]) e.toNat) l)))) an) (PV.sl (List.map prV (zID n (zAV n (cs++[c]) e.toNat) l))) ([]) rfl rfl)))))))))))
end Go.Eng
