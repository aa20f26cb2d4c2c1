/- The statement NewsFewest jQ for all arguments: further cries that are returned leave none and are as few as can be, and the gaps that are apart, or the errors, are as specified; arguments are not modified. -/
import Derived.Test.YtppbomajegnkeaaGreatPf
import Derived.Test.YtppbomajegnkeaaGreatPd
set_option linter.unusedVariables false
set_option linter.unusedSimpArgs false
set_option linter.unusedSectionVars false
set_option maxRecDepth 10000
set_option maxHeartbeats 4000000
open Nat (beq ble blt)
open List (map replicate take drop range length filter)
open Go.Eng.PV (own agg addr func sl bor tup omap bad bool int)
namespace Go.Eng
open Go Go.Proofs
def zKS(n:Nw)(w:LI)(h i:Nat):Bool:=decide (w.getD (h*8+((zAi n).getD i 0).toNat) 0=i)&&decide ((zAx n).getD i 0≠i)
def zOe(n:Nw)(w:LI)(h k:Nat):LP:=((range k).filter fun i=>zKS n w h i).map fun(i:Nat)=>((h:Int),(i:Int))
def zRX(n:Nw)(w:LI)(h:Nat):LP:=(range h).flatMap fun h=>zOe n w h n.n.length
def zAI(n:Nw)(w:LI):LP:=zRX n w n.h.toNat
theorem zSk{n:Nw}{w:LI}{h k:Nat}:zOe n w h (k+1)=if zKS n w h k=true then zOe n w h k++[((h:Int),(k:Int))] else zOe n w h k:=by
 unfold zOe;rw[bV,cR,cJ];by_cases hn:zKS n w h k=true
 ·rw[if_pos hn];simp[hn]
 ·rw[if_neg hn];simp[hn]
theorem zMZ{n:Nw}{w:LI}{h:Nat}:zRX n w (h+1)=zRX n w h++zOe n w h n.n.length:=by
 unfold zRX;rw[bV,dD];simp
theorem zPC{n:Nw}{w:LI}{h k:Nat}:(zOe n w h k).length<=k:=by
 unfold zOe;rw[bf];exact bN (bJ _ _) (by simp)
theorem zMc{n:Nw}{w:LI}:∀ h,(zRX n w h).length<=h*n.n.length
 |0=>by simp[zRX]|h+1=>by
  have h1:=zMc (n:=n) (w:=w) h;have h2:=zPC (n:=n) (w:=w) (h:=h) (k:=n.n.length);rw[zMZ,bt,cY];omega
theorem zCD{n:Nw}{w:LI}(ho:NwOk n):(zAI n w).length<=80:=by
 have h1:=zMc (n:=n) (w:=w) n.h.toNat;have h2:=ho.h;have h3:=ho.nl;have h4:n.h.toNat*n.n.length<=10*8:=fo (by omega) (by omega);unfold zAI;omega
theorem f92(n:Nw)(cs:LP)(e:Int)(ho:CrW n cs)(he:0<=e/\e<=1000):FG 92 [zE9 n cs,I e] (hdV (zAM n cs e.toNat)):=by
 have hn:=ho.nw;refine zAe Tryz.f92 ?_;refine zAh 1<|zAl 1<|S_a [(5,.ret (hdV (zJt n cs)) [])] (ap (f100 n cs (by omega)) an)<|S_g 2<|zAc<|zAh 2<|zAd 0 ?_
 refine zAo (fun(k,w)=>k<=e.toNat/\w=zAM n cs k) (fun(k,w)=>[(5,.box (hdV w)),(9,I (k:Nat))]) (fun(k,_)=>e.toNat-k) ((0:Nat),zJt n cs) ⟨by omega,rfl⟩ fun(k,w) ⟨hk,hw⟩=>?_;have hwl:w.length=80:=by rw[hw];exact zBQ k
 by_cases kd:(k:Int)<e
 ·refine zAh 1<|zAc<|zAs ((k:Int)<e) (by omega)<|zAf<|zAc<|zAd 1<|zAb<|zAn 2<|S_a [(7,.ret (hdV (zCv n w)) [])] (ap (f101 n cs w (by omega) (by omega)) an)<|S_g 1<|zAb<|S_i k<|S_g 1 ?_
  exact rnd (k+1,zCv n w) ⟨by omega,by rw[hw];rfl⟩ (by simp only;omega)
 ·refine zAh 1<|zAc<|zAu ((k:Int)<e) (by omega)<|zAq 0<|zAh 2<|zAk<|E_a [] an (agg (zBa w 80)) [] ?_ rfl
  rw[hw,show k=e.toNat by omega]
theorem f91(n:Nw)(cs:LP)(w:LI)(ho:NwOk n)(hw:w.length=80):FG 91 [zE9 n cs,hdV w] (.own 2 ((zAI n w).map prV)):=by
 have hb:=ho.h;have kN:=ho.nl;refine zAe Tryz.f91 ?_;refine zAh 2<|zAh 1<|zAc<|zAh 6<|zAd 0 ?_
 refine zAo (fun(h,l)=>h<=n.h.toNat/\l=zRX n w h) (fun(h,l)=>[(5,.own 2 (l.map prV)),(13,I (h:Nat))]) (fun(h,_)=>n.h.toNat-h) ((0:Nat),([]:LP)) ⟨by omega,rfl⟩ fun(h,l) ⟨hh,hl⟩=>?_;have ug:l.length<=h*8:=by
  have h1:=zMc (n:=n) (w:=w) h;rw[<- hl] at h1;exact bN h1 (fo (bi _) (by omega))
 by_cases hhl:(h:Int)<n.h
 ·have yD:=zMZ (n:=n) (w:=w) (h:=h);rw[<- hl] at yD;refine zAh 1<|zAc<|zAs ((h:Int)<n.h) (by omega)<|zAf<|zAc<|zAd 1<|zAh 2<|zAl 5<|S_a [(0,.n n.n.length)] (ap (lnS ntV n.n) an)<|S_g 1<|zAd 2 ?_
  refine zAo (fun(i,m)=>i<=n.n.length/\m=l++zOe n w h i) (fun(i,m)=>[(5,.own 2 (m.map prV)),(22,I (i:Nat))]) (fun(i,_)=>n.n.length-i) ((0:Nat),l) ⟨by omega,by simp[zOe]⟩ fun(i,m) ⟨hi,hm⟩=>?_;have hml:m.length<=88:=by
   have:=zPC (n:=n) (w:=w) (h:=h) (k:=i);rw[hm,bt];omega
  by_cases yB:i<n.n.length
  ·have yS:=zSk (n:=n) (w:=w) (h:=h) (k:=i);have v7:=zBL ho i yB;have wJ:0<=(zAi n).getD i 0/\(zAi n).getD i 0<8:=by omega
   clear yD;have jT:zKS n w h i=false->m=l++zOe n w h (i+1):=fun hg=>by rw[yS,if_neg (by rw[hg];simp)];exact hm
   refine zAh 1<|zAc<|zAs ((i:Int)<(n.n.length:Int)) (by omega)<|zAf<|zAc<|zAd 3<|zAh 2<|zAl 5<|S_a [(2,.ob),(0,.v ((I ((zAi n).getD i 0)).ref))] (ap ((by exact zAt (by omega)):decide (i<8)=true)<|ap (zD9 (F:=zAi n) (m:=8) (j:=i) (by omega):zBO (agg (zBa (zAi n) 8)).ref (i*(fun x=>x.size) Tryz.prog.types[3]) none=some (I ((zAi n).getD i 0)).ref) an)<|zAn 1<|S_a [(2,.ob)] (ap ((by exact zAt (by omega)):decide (h<10)=true) an)<|S_a [(0,.ob),(1,.ob)] (ap ((by exact zAt (by omega)):decide (0<=(zAi n).getD i 0)=true)<|ap ((by exact zAt (by omega)):decide (((zAi n).getD i 0).toNat<8)=true) an)<|S_a [(0,.cs true ([I (w.getD (h*8+((zAi n).getD i 0).toNat) 0)]))] (ap (zDe (q:=(agg (zBa w 80)).box) (xs:=[agg (zBa w 80)]) (x:=agg (zBa w 80)) rfl rfl (zFG (F:=w) (m:=80) (j:=h*8+((zAi n).getD i 0).toNat) (by first|rfl|exact zB8 (by kernel_rfl)|exact zCd (by kernel_rfl)|exact zD0 (by kernel_rfl) (by kernel_rfl)|exact zD2 (by kernel_rfl)|exact zEd (by kernel_rfl) (by kernel_rfl)|exact zDW (by kernel_rfl)|(simp;done)) (by omega)):zAy 3 (agg (zBa w 80)).box [] 0 (0+(h:Int).toNat*(fun x=>x.size) Tryz.prog.types[128]+((zAi n).getD i 0).toNat*(fun x=>x.size) Tryz.prog.types[3]) 1=some (true,[I (w.getD (h*8+((zAi n).getD i 0).toNat) 0)])) an)<|zAn 3<|zDh 37 (w.getD (h*8+((zAi n).getD i 0).toNat) 0=(i:Int)) (fun k0=>(zAn 4<|S_a [(2,.ob),(0,.v ((I ((zAx n).getD i 0)).ref))] (ap ((by exact zAt (by omega)):decide (i<8)=true)<|ap (zD9 (F:=zAx n) (m:=8) (j:=i) (by omega):zBO (agg (zBa (zAx n) 8)).ref (i*(fun x=>x.size) Tryz.prog.types[3]) none=some (I ((zAx n).getD i 0)).ref) an)<|S_g 4<|zDk ((zAx n).getD i 0=(i:Int)) (fun k1=>(zAb<|zAn 5<|S_a [(4,.ob),(0,.ob),(0,.yes),(2,.v (own 2 (map prV (m++[((h:Int),(i:Int))]))))] (ap (blz (map prV m))<|ap ((by exact zAQ (by simp only[bf,zzLn,zAJ]<;>omega)):((map prV m).length + [agg [I (h:Int),I (i:Int)]].length).ble zAJ=true)<|ap ((by exact zA7 (by simp<;>omega)):(0+(map prV m).length).beq (map prV m).length=true)<|ap ((zAK (zBH (by kernel_rfl))):own 2 (map prV m++[agg [I (h:Int),I (i:Int)]])=own 2 (map prV (m++[((h:Int),(i:Int))]))) an)<|S_g 1<|zAb<|S_i i<|S_g 1 ?_)) (fun k1=>(zAf<|zAb<|S_i i<|S_g 1 ?_)))) (fun k0=>(S_g 9<|zAD<|zAf<|zAb<|S_i i<|S_g 1 ?_))
   ·have hg:zKS n w h i=true:=by simp only[zKS,decide_eq_true k0,ci,decide_eq_true_eq];exact k1
    exact rnd (i+1,m++[((h:Int),(i:Int))]) ⟨by omega,by rw[yS,if_pos hg,hm,cK]⟩ (by simp only;omega)
   ·exact rnd (i+1,m) ⟨by omega,jT (by simp only[zKS,decide_eq_true k0,ci,decide_eq_false_iff_not];exact fun h=>h k1)⟩ (by simp only;omega)
   ·exact rnd (i+1,m) ⟨by omega,jT (by simp only[zKS,decide_eq_false k0,di])⟩ (by simp only;omega)
  ·refine zAh 1<|zAc<|zAu ((i:Int)<(n.n.length:Int)) (by omega)<|zAq 2<|zAb<|S_i h<|S_g 1 ?_
   exact rnd (h+1,m) ⟨by omega,by rw[yD,hm,show i=n.n.length by omega]⟩ (by simp only;omega)
 ·have e:h=n.h.toNat:=by omega
  subst e;refine zAh 1<|zAc<|zAu ((n.h.toNat:Int)<n.h) (by omega)<|zAq 0<|zAl 1<|S_a [(2,.yes)] (ap ((by exact zA7 (by simp<;>omega)):(beq 0 0&&(map prV l).length.beq (map prV l).length)=true) an)<|zAR<|zAk<|E_a [(1,.yes),(1,.v (own 2 (map prV l)))] (ap (blz (map prV l))<|ap ((zAK zAL):own 2 (take (map prV l).length (drop 0 (map prV l)))=own 2 (map prV l)) an) (own 2 (map prV l)) [] ?_ rfl
  rw[hl];rfl
theorem f22_1(n:Nw)(cs:LP)(e:Int)(ho:EvOk n cs e):FG 22 [nwV n,prs cs,I e] (.tup [.own 2 ((zAI n (zAM n cs e.toNat)).map prV),I 0]):=by
 have hc:=ho.cr;have jk:=hc.w;have hn:=hc.nw;have he:=ho.ev;have hw:=zBQ (n:=n) (cs:=cs) e.toNat;refine zAe Tryz.f22 ?_;refine zAh 3<|zAl 3<|S_a [(10,.ret (tup [zE9 n cs,I 0]) [])] (ap (f90_1 n cs e (by omega)) an)<|S_g 5<|zAc<|zAh 2<|zAD<|zAf<|zAl 3<|S_a [(7,.ret (hdV (zAM n cs e.toNat)) [])] (ap (f92 n cs e (by omega) (by omega)) an)<|S_a [(7,.ret (own 2 (map prV (zAI n (zAM n cs e.toNat)))) [])] (ap (f91 n cs (zAM n cs e.toNat) (by omega) (by omega)) an)<|S_g 2<|zAk<|E_z [(1,.yes),(1,.v (own 2 (map prV (zAI n (zAM n cs e.toNat)))))] (ap (blz (map prV (zAI n (zAM n cs e.toNat))))<|ap ((zAK zAL):own 2 (take (map prV (zAI n (zAM n cs e.toNat))).length (drop 0 (map prV (zAI n (zAM n cs e.toNat)))))=own 2 (map prV (zAI n (zAM n cs e.toNat)))) an)
theorem f22_2(n:Nw)(cs:LP)(e:Int)(hs:Small n)(hl:cs.length<1000000)(ho:¬ zCf n cs e=0):FG 22 [nwV n,prs cs,I e] (.tup [.own 2 [],I (zCf n cs e)]):=by
 refine zAe Tryz.f22 ?_;refine zAh 3<|zAl 3<|S_a [(10,.ret (tup [PV.nilp,I (zCf n cs e)]) [])] (ap (f90_2 n cs e (by omega) (by omega) (by omega)) an)<|S_g 5<|zAc<|zAh 2<|zCq (zCf n cs e=0) (by omega)<|zAh 3<|zAk E_0
def msl(n:Nw)(l:LP):LI:=(l.filter fun g=>!(n.n.getD g.2.toNat d0).2).map Prod.fst
theorem zWh{n:Nw}{l:LP}{i:Nat}(hi:i<l.length):msl n (l.take (i+1))=if (n.n.getD (l.getD i d0).2.toNat d0).2=true then msl n (l.take i) else msl n (l.take i)++[(l.getD i d0).1]:=by
 unfold msl;rw[zBs (d:=d0) hi,cR,cJ];generalize l.getD i d0=g;cases hb:(n.n.getD g.2.toNat d0).2
 ·rw[cG (by rw[hb];rfl)];rfl
 ·rw[b4 (by rw[hb];simp)];simp
theorem zD7{n:Nw}{w:LI}{g:Int×Int}(hg:g∈zAI n w):∃ h i:Nat,h<n.h.toNat/\i<n.n.length/\g=((h:Int),(i:Int))/\zKS n w h i=true:=by
 simp only[zAI,zRX,cS,bx,zOe,bQ,bT] at hg;obtain⟨h,hh,i,⟨hi,hb⟩,rfl⟩:=hg;exact⟨h,i,hh,hi,rfl,hb⟩
theorem f26_1(n:Nw)(cs:LP)(e:Int)(ho:EvOk n cs e):FG 26 [nwV n,prs cs,I e] (.tup [.own 1 ((zHj (msl n (zAI n (zAM n cs e.toNat)))).map I),I 0]):=by
 have hn:=ho.cr.nw;have hZ:=zCD (w:=zAM n cs e.toNat) hn;have yc:∀ g∈zAI n (zAM n cs e.toNat),0<=g.2/\g.2<n.n.length:=fun g hg=>by
  obtain⟨h,i,h1,h2,rfl,_⟩:=zD7 hg;simp only;omega
 have h1:=f22_1 n cs e ho;generalize zAI n (zAM n cs e.toNat)=G at *;refine zAe Tryz.f26 ?_;refine zAh 3<|zAl 3<|S_a [(10,.ret (tup [own 2 (map prV G),I 0]) [])] (ap h1 an)<|S_g 5<|zAc<|zAh 2<|zAD<|zAf<|zAh 1<|zAc<|zAl 1<|S_a [(0,.n G.length)] (ap (lnS prV G) an)<|S_g 1<|zAd 0 ?_
 refine zAo (fun(i,l)=>i<=G.length/\l=msl n (G.take i)) (fun(i,l)=>[(10,.own 1 (l.map I)),(25,I (i:Nat))]) (fun(i,_)=>G.length-i) ((0:Nat),([]:LI)) ⟨by omega,by simp[msl]⟩ fun(i,l) ⟨hi,hl⟩=>?_;have ug:l.length<=i:=by
  rw[hl,msl,bf];exact bN (bJ _ _) (by rw[bZ];omega)
 by_cases yB:i<G.length
 ·have yF:=zWh (n:=n) yB;rw[<- hl] at yF;have js:=zBt (d:=d0) yc i yB;clear h1 yc;refine zAh 1<|zAc<|zAs ((i:Int)<(G.length:Int)) (by omega)<|zAf<|zAc<|zAd 1<|zAc<|zAb<|S_a [(2,.ob),(1,.n i)] (ap ((by exact zAt (by simp only[bf,zzLn]<;>omega)):decide (i<(map prV G).length)=true)<|ap ((by simp):some (0+i)=some i) an)<|S_a [(0,.cs true ([I (G.getD i d0).fst,I (G.getD i d0).snd]))] (ap (zDe (q:=own 2 (map prV G)) (xs:=map prV G) (x:=prV (G.getD i d0)) rfl (zBi d0 (by omega)):zAy 8 (own 2 (map prV G)) [] i 0 Tryz.prog.types[108].size=some (true,[I (G.getD i d0).fst,I (G.getD i d0).snd])) an)<|S_g 2<|zAl 4<|S_a [(0,.ob),(1,.v (agg [I (n.n.getD (G.getD i d0).snd.toNat d0).fst,bool (n.n.getD (G.getD i d0).snd.toNat d0).snd]))] (ap ((by exact zAt (by omega)):decide (0<=(G.getD i d0).snd)=true)<|ap (zBi d0 (by omega):(map ntV n.n)[(G.getD i d0).snd.toNat]? = some (agg [I (n.n.getD (G.getD i d0).snd.toNat d0).fst,bool (n.n.getD (G.getD i d0).snd.toNat d0).snd])) an)<|S_g 3<|zDw (!(n.n.getD (G.getD i d0).snd.toNat d0).snd) (fun k0=>(zAb<|zAn 4<|S_a [(4,.ob),(0,.ob),(0,.yes),(2,.v (own 1 (map I (l++[(G.getD i d0).fst]))))] (ap (blz (map I l))<|ap ((by exact zAQ (by simp only[bf,zzLn,zAJ]<;>omega)):((map I l).length + [I (G.getD i d0).fst].length).ble zAJ=true)<|ap ((by exact zA7 (by simp<;>omega)):(0+(map I l).length).beq (map I l).length=true)<|ap ((zAK (zBH (by kernel_rfl))):own 1 (map I l++[I (G.getD i d0).fst])=own 1 (map I (l++[(G.getD i d0).fst]))) an)<|S_g 1<|zAb<|S_i i<|S_g 1 ?_)) (fun k0=>(zAf<|zAb<|S_i i<|S_g 1 ?_))
  ·rw[bF] at k0;rw[if_neg (by rw[k0];simp)] at yF;exact rnd (i+1,l++[(G.getD i d0).1]) ⟨by omega,yF.symm⟩ (by simp only;omega)
  ·rw[bI] at k0;rw[if_pos k0] at yF;exact rnd (i+1,l) ⟨by omega,yF.symm⟩ (by simp only;omega)
 ·rw[bp (by omega)] at hl;rw[<- hl];clear h1 yc;refine zAh 1<|zAc<|zAu ((i:Int)<(G.length:Int)) (by omega)<|zAq 0<|zAl 1<|S_a [(3,.ob),(1,.v (own 1 (map I l))),(2,.ret (own 1 (map I (zHj l))) [])] (ap ((by exact zAQ (by simp only[bf,zzLn,zAJ]<;>omega)):(map I l).length.ble (map I l).length=true)<|ap ((zAK zAL):own 1 (take (map I l).length (drop 0 (map I l)))=own 1 (map I l))<|ap (f97 l (by omega)) an)<|S_g 2<|zAk<|E_z [(1,.yes),(1,.v (own 1 (map I (zHj l))))] (ap (blz (map I (zHj l)))<|ap ((zAK zAL):own 1 (take (map I (zHj l)).length (drop 0 (map I (zHj l))))=own 1 (map I (zHj l))) an)
theorem f29_1(n:Nw)(cs:LP)(k:Nat)(ho:CrOk n cs)(hk:k<=1000)(he:zAM n cs (k+1)=zAM n cs k)(hm:∀ j,j<k->zAM n cs (j+1)≠zAM n cs j):FG 29 [nwV n,prs cs] (.tup [I k,I 0]):=by
 have hn:=ho.nw;have jk:=ho.w;have yd:=zPX (n:=n) (cs:=cs);refine zAe Tryz.f29 ?_;refine zAh 3<|zAl 2<|S_a [(8,.ret (tup [zE9 n cs,I 0]) [])] (ap (f99_1 n cs (by omega)) an)<|S_g 5<|zAc<|zAh 2<|zAD<|zAf<|zAl 1<|S_a [(5,.ret (hdV (zJt n cs)) [])] (ap (f100 n cs (by omega)) an)<|S_g 3<|zAc<|zAl 2<|S_a [(7,.ret (hdV (zCv n (zJt n cs))) [])] (ap (f101 n cs (zJt n cs) (by omega) (by omega)) an)<|S_g 2<|zAd 0 ?_
 refine zAo (fun j=>j<=k) (fun(j:Nat)=>[(8,I (j:Nat)),(9,.box (hdV (zAM n cs j))),(10,.box (hdV (zAM n cs (j+1))))]) (fun j=>k-j) (0:Nat) (by omega) fun j hj=>?_;have ul:=zBQ (n:=n) (cs:=cs) j;have v6:=zBQ (n:=n) (cs:=cs) (j+1);by_cases wv:j<k
 ·have hI:=hm j wv;refine zAc<|zAl 2<|S_a [(0,.v (bool !decide (zAM n cs (j+1)=zAM n cs j)))] (ap (zTa 80 (by omega) (by omega):zHJ Tryz.prog BinOp.neq 130 (agg (zBa (zAM n cs (j+1)) 80)) (agg (zBa (zAM n cs j) 80))=some (bool !decide (zAM n cs (j+1)=zAM n cs j))) an)<|zAR<|zCq (zAM n cs (j+1)=zAM n cs j) (by omega)<|zAf<|zAc<|zAd 1<|zAh 2<|zAb<|zAn 1<|S_i j<|S_g 1<|zAc<|zAh 1<|zAb<|S_g 2<|zAb<|zAn 2<|S_a [(7,.ret (hdV (zCv n (zAM n cs (j+1)))) [])] (ap (f101 n cs (zAM n cs (j+1)) (by omega) (by omega)) an)<|S_g 1 ?_
  exact rnd (j+1) (by omega) (by omega)
 ·have e:j=k:=by omega
  subst e;refine zAc<|zAl 2<|S_a [(0,.v (bool !decide (zAM n cs (j+1)=zAM n cs j)))] (ap (zTa 80 (by omega) (by omega):zHJ Tryz.prog BinOp.neq 130 (agg (zBa (zAM n cs (j+1)) 80)) (agg (zBa (zAM n cs j) 80))=some (bool !decide (zAM n cs (j+1)=zAM n cs j))) an)<|zAR<|zEs (zAM n cs (j+1)=zAM n cs j) (by omega)<|zAq 0<|zAh 3<|zAk E_0
def zX1(n:Nw)(cs:LP)(k:Nat):Int:=(range k).foldl (fun a k=>if zAI n (zAM n cs k)=[] then a else(k:Int)+1) 0
theorem zSl{n:Nw}{cs:LP}{k:Nat}:zX1 n cs (k+1)=if zAI n (zAM n cs k)=[] then zX1 n cs k else(k:Int)+1:=by
 simp only[zX1,bV,cv,bY,cB]
theorem f31_1(n:Nw)(cs:LP)(ho:CrOk n cs):FG 31 [nwV n,prs cs] (.tup [if zAI n (zAM n cs 12)=[] then I (zX1 n cs 12) else I 0,if zAI n (zAM n cs 12)=[] then I 0 else I 6]):=by
 have hn:=ho.nw;have jk:=ho.w;refine zAe Tryz.f31 ?_;refine zAh 3<|zAl 2<|S_a [(8,.ret (tup [zE9 n cs,I 0]) [])] (ap (f99_1 n cs (by omega)) an)<|S_g 5<|zAc<|zAh 2<|zAD<|zAf<|zAl 1<|S_a [(5,.ret (hdV (zJt n cs)) [])] (ap (f100 n cs (by omega)) an)<|S_g 3<|zAc<|zAh 1<|zAd 0 ?_
 refine zAo (fun k=>k<=12) (fun(k:Nat)=>[(8,I (zX1 n cs k)),(9,.box (hdV (zAM n cs k))),(22,I (k:Nat))]) (fun k=>12-k) (0:Nat) (by omega) fun k hk=>?_;have ul:=zBQ (n:=n) (cs:=cs) k;have wB:=zCD (w:=zAM n cs k) hn;by_cases kd:k<12
 ·have yS:=zSl (n:=n) (cs:=cs) (k:=k);refine zAh 1<|zAc<|zAs ((k:Int)<12) (by omega)<|zAf<|zAc<|zAd 1<|zAh 2<|zAc<|zAl 2<|S_a [(7,.ret (own 2 (map prV (zAI n (zAM n cs k)))) [])] (ap (f91 n cs (zAM n cs k) (by omega) (by omega)) an)<|S_a [(0,.n ((zAI n (zAM n cs k)).length))] (ap (lnS prV (zAI n (zAM n cs k))) an)<|S_g 1<|zB2 ((↑(zAI n (zAM n cs k)).length:Int)>0) (fun k1=>(zAb<|zAn 1<|S_i k<|S_g 1<|zAb<|zAn 2<|S_a [(7,.ret (hdV (zCv n (zAM n cs k))) [])] (ap (f101 n cs (zAM n cs k) (by omega) (by omega)) an)<|S_g 1<|zAb<|S_i k<|S_g 1 ?_)) (fun k1=>(zAf<|zAb<|zAn 2<|S_a [(7,.ret (hdV (zCv n (zAM n cs k))) [])] (ap (f101 n cs (zAM n cs k) (by omega) (by omega)) an)<|S_g 1<|zAb<|S_i k<|S_g 1 ?_))
  ·rw[if_neg (by intro h;rw[h] at k1;simp at k1)] at yS;exact⟨k+1,by omega,by omega,by rw[yS];kernel_rfl,by kernel_rfl⟩
  ·rw[if_pos (br (by omega))] at yS;exact⟨k+1,by omega,by omega,by rw[yS];kernel_rfl,by kernel_rfl⟩
 ·have e:k=12:=by omega
  subst e;refine zAh 1<|zAc<|zAD<|zAq 0<|zAc<|zAl 2<|S_a [(7,.ret (own 2 (map prV (zAI n (zAM n cs 12)))) [])] (ap (f91 n cs (zAM n cs 12) (by omega) (by omega)) an)<|S_a [(0,.n ((zAI n (zAM n cs 12)).length))] (ap (lnS prV (zAI n (zAM n cs 12))) an)<|S_g 1<|zB2 ((↑(zAI n (zAM n cs 12)).length:Int)>0) (fun k0=>(zAh 2<|zAk<|E_a [] an (tup [I 0,I 6]) [] ?_ rfl)) (fun k0=>(zAf<|zAh 3<|zAk<|E_a [] an (tup [I (zX1 n cs 12),I 0]) [] ?_ rfl))
  ·have h:¬ zAI n (zAM n cs 12)=[]:=by intro h;rw[h] at k0;simp at k0
   rw[if_neg h,if_neg h]
  ·have h:zAI n (zAM n cs 12)=[]:=br (by omega);rw[if_pos h,if_pos h]
end Go.Eng
namespace Go.Eng
open Go Go.Proofs
theorem zHz{n:Nw}(ho:NwOk n)(j:Nat):∀ i,j<i->i<=n.n.length->(zQq n.n i).getD j 0=(zQq n.n (j+1)).getD j 0
 |0,h,_=>absurd h (bH j)|i + 1,h,hi=>by
  have h8:=ho.nl.2;by_cases hj:j=i
  ·subst hj;rfl
  ·rw[zQq,zKA (zHs i) (by omega) (ho.na i (by omega)),if_neg hj];exact zHz ho j i (by omega) (by omega)
theorem zJs{n:Nw}(ho:NwOk n){i:Nat}(hi:i<n.n.length):(zAi n).getD i 0=if (n.n.getD i d0).1 = -1 then(i:Int) else(zAi n).getD (n.n.getD i d0).1.toNat 0:=by
 have h8:=ho.nl.2;have ha:=ho.na i hi;unfold zAi;rw[zHz ho i n.n.length hi (bi _),zQq,zKA (zHs i) (by omega) ha,if_pos rfl];split
 ·rfl
 ·rename_i hI;rw[zHz ho (n.n.getD i d0).1.toNat i (by omega) (by omega),zHz ho (n.n.getD i d0).1.toNat n.n.length (by omega) (bi _)]
theorem zG1{n:Nw}(ho:NwOk n):∀ (i:Nat),i<n.n.length->(zAi n).getD ((zAi n).getD i 0).toNat 0=(zAi n).getD i 0:=by
 intro i
 induction i using Nat.strongRecOn with
 |ind i ih=>
  intro hi;have ha:=ho.na i hi;have hr:=zJs ho hi;by_cases h:(n.n.getD i d0).1 = -1
  ·rw[if_pos h] at hr;rw[hr,b7,hr]
  ·rw[if_neg h] at hr;rw[hr];exact ih (n.n.getD i d0).1.toNat (by omega) (by omega)
def chn(n:Nw)(i j:Nat):Prop:=(zAi n).getD i 0=(zAi n).getD j 0
theorem zQD{n:Nw}(ho:NwOk n):∀ (j i:Nat),i<j->j<n.n.length->chn n i j->∃ k,i<k/\k<=j/\k<n.n.length/\(n.n.getD k d0).1=i/\chn n k j:=by
 intro j
 induction j using Nat.strongRecOn with
 | ind j ih =>
  intro i qt hj hc;have ha:=ho.na j hj;have hr:=zJs ho hj;have u5:=zBL ho i (by omega);by_cases h:(n.n.getD j d0).1 = -1
  ·rw[if_pos h] at hr;unfold chn at hc;omega
  ·rw[if_neg h] at hr;by_cases he:(n.n.getD j d0).1=(i:Int)
   ·exact⟨j,qt,bi _,hj,he,rfl⟩
   ·by_cases yI:(i:Int)<(n.n.getD j d0).1
    ·obtain⟨k,h1,h2,h3,h4,h5⟩:=ih (n.n.getD j d0).1.toNat (by omega) i (by omega) (by omega) (by unfold chn at hc ⊢;rw[hc,hr]);exact⟨k,h1,by omega,h3,h4,by unfold chn at h5 ⊢;rw[h5,hr]⟩
    ·
     exfalso;obtain⟨k,h1,h2,h3,h4,_⟩:=ih i qt (n.n.getD j d0).1.toNat (by omega) (by omega) (by unfold chn at hc ⊢;rw[<- hr,hc]);exact ho.nd j k (by omega) hj h (by rw[h4];omega)
theorem zGB{F L:LI}{i j:Nat}(h:i≠j):∀ k,(zVq F i L k).getD j 0=L.getD j 0
 |0=>rfl|k+1=>by
  rw[zHl,zNH];split
  ·rw[zCY,if_neg (fun h2=>h h2.1)];exact zGB h k
  ·exact zGB h k
theorem zTg{F L:LI}{i:Nat}(hL:L.length=8)(hi:i<8)(h0:L.getD i 0=0):∀ k,∃ l:Nat,(zVq F i L k).getD i 0=l/\(l=0\/l<k/\F.getD l 0=F.getD i 0)/\∀ j,j<k->F.getD j 0=F.getD i 0->j<=l
 |0=>⟨0,h0,.inl rfl,fun j hj=>absurd hj (bH j)⟩
 | k + 1 => by
  obtain⟨l,h1,h2,h3⟩:=zTg hL hi h0 k;rw[zHl,zNH];split
  ·rename_i hk;refine⟨max l k,?_,?_,fun j hj hf=>?_⟩
   ·rw[zCY,if_pos ⟨rfl,by rw[zI2];omega⟩,h1];omega
   ·by_cases yK:l<=k
    ·right;rw[Nat.max_eq_right yK];exact⟨by omega,hk⟩
    ·rw[Nat.max_eq_left (by omega)];rcases h2 with h2|⟨h2,h4⟩
     ·exact .inl h2
     ·exact .inr ⟨by omega,h4⟩
   ·by_cases wv:j=k
    ·omega
    ·have:=h3 j (by omega) hf;omega
  ·rename_i hk;refine⟨l,h1,?_,fun j hj hf=>?_⟩
   ·rcases h2 with h2|⟨h2,h4⟩
    ·exact .inl h2
    ·exact .inr ⟨by omega,h4⟩
   ·by_cases wv:j=k
    ·subst wv;exact absurd hf hk
    ·exact h3 j (by omega) hf
theorem zNX{F:LI}{m:Nat}:∀ i j,i<=j->(zRM F m i).getD j 0=0
 |0,j,_=>by
  simp only[zRM,List.range_zero,cB,cE,List.getElem?_replicate];split<;>rfl
 |i+1,j,h=>by rw[zGj,zGB (by omega)];exact zNX i j (by omega)
theorem zMR{F:LI}{m j:Nat}:∀ i,j<i->(zRM F m i).getD j 0=(zRM F m (j+1)).getD j 0
 |0,h=>absurd h (bH j)|i+1,h=>by
  by_cases hj:j=i
  ·subst hj;rfl
  ·rw[zGj,zGB (by omega)];exact zMR i (by omega)
theorem zBX{n:Nw}(ho:NwOk n){i:Nat}(hi:i<n.n.length):∃ l:Nat,(zAx n).getD i 0=l/\l<n.n.length/\chn n l i/\i<=l/\∀ k,k<n.n.length->chn n k i->k<=l:=by
 have h8:=ho.nl.2;obtain⟨l,h1,h2,h3⟩:=zTg (F:=zAi n) (i:=i) (zJf (F:=zAi n) (m:=n.n.length) i) (by omega) (zNX i i (bi i)) n.n.length;have yB:=h3 i hi rfl;refine⟨l,?_,?_,?_,yB,fun k hk hc=>h3 k hk hc⟩
 ·unfold zAx;rw[zMR n.n.length hi,zGj];exact h1
 ·rcases h2 with h2|⟨h2,_⟩<;>omega
 ·rcases h2 with h2|⟨_,h4⟩
  ·have:i=l:=by omega
   subst this;rfl
  ·exact h4
end Go.Eng
set_option maxRecDepth 10000
set_option maxHeartbeats 4000000
namespace Go.Eng
open Go Go.Proofs
def zE7(n:Nw)(x:Int):Int:=zEi (fun y=>decide (y.1=x)) n.n
theorem f143(n:Nw)(x:Int)(hl:n.n.length<1000000):FG 143 [nwV n,I x] (I (zE7 n x)):=by
 refine zAe Tryz.f143 ?_;refine zAh 2<|zAc<|zAh 1<|zAd 0 ?_
 refine zAo (fun i=>i<=n.n.length/\∀ j,j<i->decide ((n.n.getD j d0).1=x)=false) (fun(i:Nat)=>[(5,I (i:Nat))]) (fun i=>n.n.length-i) (0:Nat) ⟨by omega,fun j hj=>absurd hj (bH j)⟩ fun i ⟨hi,ha⟩=>?_;refine zAc<|zAl 3<|S_a [(0,.n n.n.length)] (ap (lnS ntV n.n) an)<|S_g 1<|zB2 ((i:Int)<(n.n.length:Int)) (fun k0=>(zAf<|zAc<|zAd 1<|zAl 3<|S_a [(2,.v (agg [I (n.n.getD i d0).fst,bool (n.n.getD i d0).snd]))] (ap (zBi d0 (by omega):(map ntV n.n)[i]? = some (agg [I (n.n.getD i d0).fst,bool (n.n.getD i d0).snd])) an)<|S_g 4<|zB2 ((n.n.getD i d0).fst=x) (fun k1=>(zAh 2<|zAk<|E_a [] an (I (i:Int)) [] ?_ rfl)) (fun k1=>(zAf<|zAb<|zAn 1<|S_i i<|S_g 1 ?_)))) (fun k0=>(zAq 0<|zAh 1<|zAk<|E_a [] an (I (-1)) [] ?_ rfl))
 ·rw[zE7,zBK (i:=i) (by omega) (fun j hj=>by rw[<- zAp (d:=d0)];exact ha j hj) (by rw[<- zAp (d:=d0)];exact decide_eq_true (by assumption))]
 ·refine⟨i+1,⟨by omega,fun j hj=>?_⟩,by omega,by kernel_rfl,by kernel_rfl⟩;rcases bC.1 hj with h|rfl
  ·exact ha j h
  ·exact decide_eq_false (by assumption)
 ·rw[zE7,zB6 fun j hj=>by rw[<- zAp (d:=d0)];exact ha j (by omega)]
def zWB(a b:Int)(x:Int×Int):Bool:=decide (x.1=a/\x.2=b\/x.1=b/\x.2=a)
def zTO(n:Nw)(a b:Int):Bool:=n.l.any (zWB a b)
theorem zPZ{a b:Int}{x:Int×Int}:pr2 x=pr2 (a,b)↔x.1=a/\x.2=b\/x.1=b/\x.2=a:=by
 obtain⟨c,d⟩:=x;simp only[pr2,bB];constructor
 ·rintro⟨h1,h2⟩
  repeat' split at h1
  all_goals (repeat' split at h2)
  all_goals omega
 ·intro h;constructor
  ·repeat' split
   all_goals omega
  ·repeat' split
   all_goals omega
theorem zXu{n:Nw}{a b:Int}:zTO n a b=zGH n a b:=by
 rw[cA];simp only[zTO,zGH,bP,zWB,decide_eq_true_eq,bQ];constructor
 ·rintro⟨x,hx,h⟩;exact⟨x,hx,zPZ.2 h⟩
 ·rintro⟨x,hx,h⟩;exact⟨x,hx,zPZ.1 h⟩
theorem f114(n:Nw)(a b:Int)(hl:n.l.length<1000000):FG 114 [nwV n,I a,I b] (.bool (zGH n a b)):=by
 rw[<- zXu];refine zAe Tryz.f114 ?_;refine zAh 2<|zAc<|zAh 1<|zAd 0 ?_
 refine zAo (fun i=>i<=n.l.length/\∀ j,j<i->zWB a b (n.l.getD j d0)=false) (fun(i:Nat)=>[(7,I (i:Nat))]) (fun i=>n.l.length-i) (0:Nat) ⟨by omega,fun j hj=>absurd hj (bH j)⟩ fun i ⟨hi,ha⟩=>?_;by_cases yB:i<n.l.length
 ·have yD:zWB a b (n.l.getD i d0)=false->∀ j,j<i+1->zWB a b (n.l.getD j d0)=false:=fun h j hj=>by
   rcases bC.1 hj with h2|rfl
   ·exact ha j h2
   ·exact h
  have vC:zWB a b (n.l.getD i d0)=true->zTO n a b=true:=fun h=>by
   rw[zAp yB] at h;exact bP.2 ⟨_,cu yB,h⟩
  clear ha;refine zAc<|zAl 3<|S_a [(0,.n n.l.length)] (ap (lnS prV n.l) an)<|S_g 1<|zAs ((i:Int)<(n.l.length:Int)) (by omega)<|zAf<|zAc<|zAd 1<|zAl 3<|S_a [(2,.v (prV (n.l.getD i d0)))] (ap (zBi d0 (by omega):(map prV n.l)[i]? = some (prV (n.l.getD i d0))) an)<|S_g 3<|zAl 1<|zAn 4<|zDh 25 ((n.l.getD i d0).fst=a) (fun k0=>(zAn 1<|zAn 5<|zDh 31 ((n.l.getD i d0).snd=b) (fun k1=>(S_g 11<|zBD<|zAh 1<|zAk<|E_a [] an (bool true) [] ?_ rfl)) (fun k1=>(zAn 1<|zAn 4<|zDh 36 ((n.l.getD i d0).fst=b) (fun k2=>(zAn 1<|S_g 5<|zAu ((n.l.getD i d0).snd=a) (by omega)<|zAf<|zAb<|zAn 1<|S_i i<|S_g 1 ?_)) (fun k2=>(S_g 6<|zAD<|zAf<|zAb<|zAn 1<|S_i i<|S_g 1 ?_)))))) (fun k0=>(zAn 6<|zAn 1<|zAn 4<|zDh 36 ((n.l.getD i d0).fst=b) (fun k3=>(zAn 1<|S_g 5<|zB2 ((n.l.getD i d0).snd=a) (fun k4=>(zAh 1<|zAk<|E_a [] an (bool true) [] ?_ rfl)) (fun k4=>(zAf<|zAb<|zAn 1<|S_i i<|S_g 1 ?_)))) (fun k3=>(S_g 6<|zAD<|zAf<|zAb<|zAn 1<|S_i i<|S_g 1 ?_))))
  all_goals first|(rw[vC (by simp only[zWB,decide_eq_true_eq];omega)];done)|exact⟨i+1,⟨by omega,yD (by simp only[zWB,decide_eq_false_iff_not];omega)⟩,by omega,by kernel_rfl,by kernel_rfl⟩
 ·refine zAc<|zAl 3<|S_a [(0,.n n.l.length)] (ap (lnS prV n.l) an)<|S_g 1<|zAu ((i:Int)<(n.l.length:Int)) (by omega)<|zAq 0<|zAh 1<|zAk<|E_a [] an (bool false) [] ?_ rfl
  have:zTO n a b=false:=by
   simp only[zTO,cD,ce];intro x hx;obtain⟨j,hj,rfl⟩:=dg hx;have:=ha j (by omega);rwa[zAp hj] at this
  rw[this]
end Go.Eng
set_option maxRecDepth 10000
set_option maxHeartbeats 4000000
namespace Go.Eng
open Go Go.Proofs
abbrev bls(l:List Bool):PV := .sl (l.map bool)
abbrev knV(K:List (List Bool)):PV := .sl (K.map bls)
def kn(K:List (List Bool))(h i:Nat):Bool:=(K.getD h []).getD i false
structure RelK (n:Nw) (K:List (List Bool)) (w:LI):Prop where
 len:K.length=n.h.toNat
 row:∀ r∈K,r.length=n.n.length
 wl:w.length=80
 top:∀ h i,h<n.h.toNat->i<n.n.length->kn K h i=true->(i:Int)<=w.getD (h*8+((zAi n).getD i 0).toNat) 0
 at_:∀ h c,h<n.h.toNat->c<8->w.getD (h*8+c) 0 = -1\/∃ i,i<n.n.length/\(zAi n).getD i 0=c/\w.getD (h*8+c) 0=i/\kn K h i=true
def hld(n:Nw)(w:LI)(h i:Nat):Bool:=decide (w.getD (h*8+((zAi n).getD i 0).toNat) 0=i)
theorem zUW{n:Nw}{x:Int}(h:zE7 n x≠-1):∃ k:Nat,zE7 n x=k/\k<n.n.length/\(n.n.getD k d0).1=x:=by
 unfold zE7 zEi at h ⊢;split
 ·rename_i yI;have hp:=fb (w:=yI);exact⟨_,rfl,yI,by rw[zAp yI];simpa using hp⟩
 ·rename_i hn;rw[if_neg hn] at h;exact absurd rfl h
theorem zU7{n:Nw}{x:Int}(h:zE7 n x = -1)(k:Nat)(hk:k<n.n.length):(n.n.getD k d0).1≠x:=by
 have h2:=zDI (fun y:Int×Bool=>decide (y.1=x)) n.n;unfold zE7 at h;rw[h] at h2;intro he;have:(n.n.any fun y=>decide (y.1=x))=true:=bP.2 ⟨_,cu hk,by rw[zAp hk] at he;simpa using he⟩;rw[this] at h2;cases h2
theorem zXf{n:Nw}(ho:NwOk n){i k:Nat}(hk:k<n.n.length)(h:(n.n.getD k d0).1=i):i<k/\chn n k i:=by
 have ha:=ho.na k hk;have hr:=zJs ho hk;refine⟨by omega,?_⟩;rw[if_neg (by omega),h,b7] at hr;exact hr
theorem zUR{n:Nw}(ho:NwOk n){a b:Nat}{x:Int}(hx:0<=x)(ha:a<n.n.length)(hb:b<n.n.length)(h1:(n.n.getD a d0).1=x)(h2:(n.n.getD b d0).1=x):a=b:=by
 by_cases h:a=b
 ·exact h
 ·exfalso;by_cases yI:a<b
  ·exact ho.nd b a yI hb (by omega) (by rw[h1,h2])
  ·exact ho.nd a b (by omega) ha (by omega) (by rw[h1,h2])
theorem zHy{n:Nw}(ho:NwOk n){i:Nat}(hi:i<n.n.length):(zE7 n i = -1/\∀ k,k<n.n.length->chn n k i->¬ i<k)\/∃ m:Nat,zE7 n i=m/\i<m/\m<n.n.length/\chn n m i/\∀ k,k<n.n.length->chn n k i->i<k->m<=k:=by
 by_cases h:zE7 n i = -1
 ·left;refine⟨h,fun k hk hc ww=>?_⟩;obtain⟨j,_,_,h3,h4,_⟩:=zQD ho k i ww hk hc.symm;exact zU7 h j h3 h4
 ·right;obtain⟨m,h1,h2,h3⟩:=zUW h;obtain⟨h4,h5⟩:=zXf ho h2 h3;refine⟨m,h1,h4,h2,h5,fun k hk hc ww=>?_⟩;obtain⟨j,g1,g2,g3,g4,_⟩:=zQD ho k i ww hk hc.symm;have:=zUR ho (by omega) h2 g3 h3 g4;omega
theorem zY1{n:Nw}{K:List (List Bool)}{w:LI}{h i:Nat}(ho:NwOk n)(hr:RelK n K w)(hh:h<n.h.toNat)(hi:i<n.n.length)(h1:kn K h i=true)(h2:∀ k,k<n.n.length->chn n k i->i<k->kn K h k=false):hld n w h i=true:=by
 have v7:=zBL ho i hi;have kN:=ho.nl.2;have ht:=hr.top h i hh hi h1;rcases hr.at_ h ((zAi n).getD i 0).toNat hh (by omega) with h3|⟨j,g1,g2,g3,g4⟩
 ·omega
 ·by_cases hj:j=i
  ·subst hj;simpa only [hld,decide_eq_true_eq] using g3
  ·have:=h2 j g1 (by unfold chn;omega) (by omega);rw[this] at g4;cases g4
theorem zVf{n:Nw}{K:List (List Bool)}{w:LI}{h i:Nat}(ho:NwOk n)(hr:RelK n K w)(hh:h<n.h.toNat)(hi:i<n.n.length)(h1:kn K h i=false\/∃ k,k<n.n.length/\chn n k i/\i<k/\kn K h k=true):hld n w h i=false:=by
 have v7:=zBL ho i hi;have kN:=ho.nl.2;simp only[hld,decide_eq_false_iff_not];intro he;rcases h1 with h1|⟨k,g1,g2,g3,g4⟩
 ·rcases hr.at_ h ((zAi n).getD i 0).toNat hh (by omega) with h3|⟨j,g1,g2,g3,g4⟩
  ·omega
  ·have:j=i:=by omega
   subst this;rw[h1] at g4;cases g4
 ·have:=hr.top h k hh g1 g4;unfold chn at g2;rw[g2] at this;omega
theorem zZ1 (n:Nw) (K:List (List Bool)) (w:LI) (h i:Nat) (ho:NwOk n) (hr:RelK n K w) (hh:h<n.h.toNat) (hi:i<n.n.length):FG 113 [nwV n,knV K,I h,I i] (.bool (hld n w h i)):=by
 have kN:=ho.nl.2;have kd:=hr.len;have yG:(K.getD h []).length=n.n.length:=zBt (d:=[]) hr.row h (by omega);refine zAe Tryz.f113 ?_;have kE:=zHy ho hi;refine zAh 2<|zAc<|zAl 2<|S_a [(2,.v (sl (map bool (K.getD h []))))] (ap (zBi [] (by omega):(map bls K)[h]? = some (sl (map bool (K.getD h [])))) an)<|zAn 2<|S_a [(2,.v (bool ((K.getD h []).getD i false)))] (ap (zBi false (by omega):(map bool (K.getD h []))[i]? = some (bool ((K.getD h []).getD i false))) an)<|S_g 2<|zDw (!(K.getD h []).getD i false) (fun k0=>(zAh 1<|zAk<|E_a [] an (bool false) [] ?_ rfl)) (fun k0=>(zAf<|zAc<|zAl 2<|S_a [(8,.ret (I (zE7 n (i:Int))) [])] (ap (f143 n ((i:Int)) (by first|omega|(simp<;>omega))) an)<|S_g 1<|zAd 0 ?_))
 ·rw[bF] at k0;rw[zVf ho hr hh hi (.inl k0)]
 ·refine zAo (fun(m:Int)=>(m = -1\/∃ k:Nat,m=k/\i<k/\k<n.n.length/\chn n k i)/\∀ k,k<n.n.length->chn n k i->i<k->(m = -1\/(k:Int)<m)->kn K h k=false) (fun m=>[(3,I m)]) (fun m=>(if m = -1 then 0 else n.n.length+1-m.toNat)) (zE7 n i) ?_ fun m ⟨hm,ha⟩=>?_
  ·rcases kE with⟨g1,g2⟩|⟨m,g1,g2,g3,g4,g5⟩
   ·exact⟨.inl g1,fun k hk hc ww _=>absurd ww (g2 k hk hc)⟩
   ·exact⟨.inr ⟨m,g1,g2,g3,g4⟩,fun k hk hc ww hx=>by have:=g5 k hk hc ww;omega⟩
  ·rw [bI] at k0;rcases hm with rfl | ⟨k,rfl,h1,h2,h3⟩
   ·have:=zY1 ho hr hh hi k0 fun k hk hc ww=>ha k hk hc ww (.inl rfl);rw[this];clear ha kE;refine zAc<|zAh 2<|zAD<|zAq 0<|zAh 1<|zAk E_0
   ·have gF:=zHy ho h2;clear kE;refine zAc<|zAh 2<|zBD<|zAf<|zAc<|zAd 1<|zAl 2<|S_a [(2,.v (sl (map bool (K.getD h []))))] (ap (zBi [] (by omega):(map bls K)[h]? = some (sl (map bool (K.getD h [])))) an)<|zAn 2<|S_a [(2,.v (bool ((K.getD h []).getD k false)))] (ap (zBi false (by omega):(map bool (K.getD h []))[k]? = some (bool ((K.getD h []).getD k false))) an)<|S_g 1<|zDw ((K.getD h []).getD k false) (fun k2=>(zAh 1<|zAk<|E_a [] an (bool false) [] ?_ rfl)) (fun k2=>(zAf<|zAb<|zAn 2<|S_a [(8,.ret (I (zE7 n (k:Int))) [])] (ap (f143 n ((k:Int)) (by first|omega|(simp<;>omega))) an)<|S_g 1 ?_))
    ·rw[zVf ho hr hh hi (.inr ⟨k,h2,h3,h1,by assumption⟩)]
    ·have uh:kn K h k=false:=by assumption
     refine⟨zE7 n k,?_,?_,by kernel_rfl,by kernel_rfl⟩
     ·rcases gF with⟨g1,g2⟩|⟨m,g1,g2,g3,g4,g5⟩
      ·refine⟨.inl g1,fun j hj hc qt _=>?_⟩;by_cases wv:j=k
       ·subst wv;exact uh
       ·by_cases yI:j<k
        ·exact ha j hj hc qt (.inr (by omega))
        ·exact absurd (by omega:k<j) (g2 j hj (by unfold chn at *;omega))
      ·refine⟨.inr ⟨m,g1,by omega,g3,by unfold chn at *;omega⟩,fun j hj hc qt hx=>?_⟩;by_cases wv:j=k
       ·subst wv;exact uh
       ·by_cases yI:j<k
        ·exact ha j hj hc qt (.inr (by omega))
        ·have:=g5 j hj (by unfold chn at *;omega) (by omega);omega
     ·rcases gF with⟨g1,_⟩|⟨m,g1,g2,g3,_⟩
      ·rw[g1,if_pos rfl,if_neg (by omega)];omega
      ·rw[g1,if_neg (by omega),if_neg (by omega)];omega
end Go.Eng
set_option maxRecDepth 10000
set_option maxHeartbeats 4000000
namespace Go.Eng
open Go Go.Proofs
def hrB(n:Nw)(h i:Int)(c:Int×Int):Bool:=decide (c.1=i)&&has (n.s.getD c.2.toNat []) h
def zEb(n:Nw)(cs:LP)(h i:Int):Bool:=cs.any (hrB n h i)
theorem f141(n:Nw)(cs:LP)(h i:Int)(ho:CrW n cs):FG 141 [nwV n,prs cs,I h,I i] (.bool (zEb n cs h i)):=by
 have hn:=ho.nw;have yO:=ho.len;have jE:=hn.sl.2;refine zAe Tryz.f141 ?_;refine zAh 2<|zAc<|zAh 1<|zAd 0 ?_
 refine zAo (fun j=>j<=cs.length/\∀ k,k<j->hrB n h i (cs.getD k d0)=false) (fun(j:Nat)=>[(9,I (j:Nat))]) (fun j=>cs.length-j) (0:Nat) ⟨by omega,fun j hj=>absurd hj (bH j)⟩ fun j ⟨hj,ha⟩=>?_;by_cases jN:j<cs.length
 ·obtain⟨jM,jL⟩:=zBt (d:=d0) ho.cs j jN;have kM:=zBt (d:=[]) hn.rows (cs.getD j d0).2.toNat (by omega);have yD:hrB n h i (cs.getD j d0)=false->∀ k,k<j+1->hrB n h i (cs.getD k d0)=false:=fun h k hk=>by
   rcases bC.1 hk with h2|rfl
   ·exact ha k h2
   ·exact h
  have vC:hrB n h i (cs.getD j d0)=true->zEb n cs h i=true:=fun h=>by
   rw[zAp jN] at h;exact bP.2 ⟨_,cu jN,h⟩
  clear ha;refine zAc<|zAl 2<|S_a [(0,.n cs.length)] (ap (lnS prV cs) an)<|S_g 1<|zAs ((j:Int)<(cs.length:Int)) (by omega)<|zAf<|zAc<|zAd 1<|zAc<|zAl 2<|S_a [(2,.v (prV (cs.getD j d0)))] (ap (zBi d0 (by omega):(map prV cs)[j]? = some (prV (cs.getD j d0))) an)<|S_g 4<|zDk ((cs.getD j d0).fst=i) (fun k0=>(zAq 1<|zAb<|zAn 1<|S_i j<|S_g 1 ?_)) (fun k0=>(zAf<|zAl 4<|S_a [(2,.v (prV (cs.getD j d0)))] (ap (zBi d0 (by omega):(map prV cs)[j]? = some (prV (cs.getD j d0))) an)<|zAn 2<|S_a [(0,.ob),(1,.v (zA1 (n.s.getD (cs.getD j d0).snd.toNat [])))] (ap ((by exact zAt (by omega)):decide (0<=(cs.getD j d0).snd)=true)<|ap (zBi [] (by omega):(map zA1 n.s)[(cs.getD j d0).snd.toNat]? = some (zA1 (n.s.getD (cs.getD j d0).snd.toNat []))) an)<|S_g 2<|zAh 1<|zAd 2 ?_))
  ·exact rnd (j+1) ⟨by omega,yD (by simp only[hrB,decide_eq_false (by assumption),di])⟩ (by omega)
  ·have he:(cs.getD j d0).1=i:=by first|assumption|(apply db;assumption)
   refine zAo (fun k=>k<=(n.s.getD (cs.getD j d0).2.toNat []).length/\∀ r,r<k->decide (h=(n.s.getD (cs.getD j d0).2.toNat []).getD r 0)=false) (fun(k:Nat)=>[(11,I (k:Nat))]) (fun k=>(n.s.getD (cs.getD j d0).2.toNat []).length-k) (0:Nat) ⟨by omega,fun j hj=>absurd hj (bH j)⟩ fun k ⟨hk,hb⟩=>?_;generalize hL:n.s.getD (cs.getD j d0).2.toNat []=L at *;by_cases kd:k<L.length
   ·refine zAc<|zAl 2<|S_a [(0,.n L.length)] (ap (lnS I L) an)<|S_g 1<|zAs ((k:Int)<(L.length:Int)) (by omega)<|zAf<|zAc<|zAd 3<|zAl 2<|S_a [(2,.v (I (L.getD k 0)))] (ap (zBi (0) (by omega):(map I L)[k]? = some (I (L.getD k 0))) an)<|S_g 3<|zB2 (L.getD k 0=h) (fun k2=>(zAh 1<|zAk<|E_a [] an (bool true) [] ?_ rfl)) (fun k2=>(zAf<|zAb<|zAn 1<|S_i k<|S_g 1 ?_))
    ·have h3:L.getD k 0=h:=by assumption
     have:has L h=true:=by
      rw[zKL,decide_eq_true_eq,<- h3,zAp kd];exact cu kd
     rw[vC (by simp only[hrB,decide_eq_true he,hL,this];rfl)]
    ·refine⟨k+1,⟨by omega,fun r hr=>?_⟩,by omega,by kernel_rfl,by kernel_rfl⟩;rcases bC.1 hr with h2|rfl
     ·exact hb r h2
     ·exact decide_eq_false fun h=>absurd h.symm (by assumption)
   ·have:has L h=false:=by
     rw[zKL,decide_eq_false_iff_not];intro hm;obtain⟨r,hr,rfl⟩:=dg hm;have:=hb r (by omega);rw[zAp hr] at this;simp at this
    have jT:=yD (by simp only[hrB,hL,this,dC]);clear hb;refine zAc<|zAl 2<|S_a [(0,.n L.length)] (ap (lnS I L) an)<|S_g 1<|zAu ((k:Int)<(L.length:Int)) (by omega)<|zAq 2<|zAb<|zAn 1<|S_i j<|S_g 1 ?_
    exact rnd (j+1) ⟨by omega,jT⟩ (by omega)
 ·refine zAc<|zAl 2<|S_a [(0,.n cs.length)] (ap (lnS prV cs) an)<|S_g 1<|zAu ((j:Int)<(cs.length:Int)) (by omega)<|zAq 0<|zAh 1<|zAk<|E_a [] an (bool false) [] ?_ rfl
  have:zEb n cs h i=false:=by
   simp only[zEb,cD,ce];intro x hx;obtain⟨j,hj,rfl⟩:=dg hx;have:=ha j (by omega);rwa[zAp hj] at this
  rw[this]
end Go.Eng
set_option maxRecDepth 10000
set_option maxHeartbeats 4000000
namespace Go.Eng
open Go Go.Proofs
abbrev lsB(l:List Bool):PV := .own 1 (l.map bool)
instance:FrzOf lsB bls:=⟨fun x=>by simp only[zAY,zFL]⟩
def zQc(n:Nw)(cs:LP)(h k:Nat):List Bool:=(range k).map fun(i:Nat)=>zEb n cs h i
def zRk(n:Nw)(cs:LP)(k:Nat):List (List Bool):=(range k).map fun h=>zQc n cs h n.n.length
theorem zTp{n:Nw}{cs:LP}{h k:Nat}:zQc n cs h (k+1)=zQc n cs h k++[zEb n cs h k]:=by
 simp only[zQc,bV,cJ,bO,d5]
theorem zT7{n:Nw}{cs:LP}{k:Nat}:zRk n cs (k+1)=zRk n cs k++[zQc n cs k n.n.length]:=by
 simp only[zRk,bV,cJ,bO,d5]
theorem f112(n:Nw)(cs:LP)(ho:CrW n cs):FG 112 [nwV n,prs cs] (.own 1 ((zRk n cs n.h.toNat).map lsB)):=by
 have hn:=ho.nw;have hb:=hn.h;have kN:=hn.nl;refine zAe Tryz.f112 ?_;refine zAh 2<|zAh 1<|zAc<|zAh 1<|zAd 0 ?_
 refine zAo (fun(h,K)=>h<=n.h.toNat/\K=zRk n cs h) (fun(h,K)=>[(5,.own 1 (K.map lsB)),(6,I (h:Nat))]) (fun(h,_)=>n.h.toNat-h) ((0:Nat),([]:List (List Bool))) ⟨by omega,rfl⟩ fun(h,K) ⟨hh,hK⟩=>?_;have hKl:K.length=h:=by rw[hK];simp[zRk]
 by_cases hhl:(h:Int)<n.h
 ·have yS:=zT7 (n:=n) (cs:=cs) (k:=h);rw[<- hK] at yS;clear hK;refine zAc<|zAh 4<|zAs ((h:Int)<n.h) (by omega)<|zAf<|zAc<|zAd 1<|zAl 2<|S_a [(0,.n n.n.length)] (ap (lnS ntV n.n) an)<|S_a [(4,.ob),(0,.ob),(1,.v (own 1 (map bool (replicate n.n.length false))))] (ap ((by exact zAt (by omega)):decide (n.n.length<=n.n.length)=true)<|ap ((by exact zAt (by simp[zAJ]<;>omega)):decide (n.n.length<=zAJ)=true)<|ap ((by simp):own 1 (replicate n.n.length (bool false))=own 1 (map bool (replicate n.n.length false))) an)<|S_g 1<|zAc<|zAh 1<|zAd 2 ?_
  refine zAo (fun(i,r)=>i<=n.n.length/\r=zQc n cs h i++replicate (n.n.length-i) false) (fun(i,r)=>[(7,.own 1 (r.map bool)),(8,I (i:Nat))]) (fun(i,_)=>n.n.length-i) ((0:Nat),replicate n.n.length false) ⟨by omega,by simp[zQc]⟩ fun(i,r) ⟨hi,hr⟩=>?_;have kM:r.length=n.n.length:=by rw[hr];simp[zQc];omega
  by_cases yB:i<n.n.length
  ·refine zAc<|zAl 2<|S_a [(0,.n r.length)] (ap (lnS bool r) an)<|S_g 1<|zAs ((i:Int)<(r.length:Int)) (by omega)<|zAf<|zAc<|zAd 3<|zAb<|zAn 6<|S_a [(12,.ret (bool (zEb n cs (h:Int) (i:Int))) [])] (ap (f141 n cs ((h:Int)) ((i:Int)) (by omega)) an)<|S_a [(2,.ob),(1,.n i)] (ap ((by exact zAt (by simp only[bf,zzLn]<;>omega)):decide (i<(map bool r).length)=true)<|ap ((by simp):some (0+i)=some i) an)<|S_a [(8,.root (own 1 (map bool (r.set i (zEb n cs (h:Int) (i:Int))))) true)] (ap (zOD (zBi false (by omega)) zFo:zBG (own 1 (map bool r)) [] i 0 (bool (zEb n cs (h:Int) (i:Int))).cells=some (own 1 (map bool (r.set i (zEb n cs (h:Int) (i:Int)))))/\zAP (own 1 (map bool r)) (own 1 (map bool (r.set i (zEb n cs (h:Int) (i:Int))))) []=true) an)<|zAR<|zAb<|zAn 1<|S_i i<|S_g 1 ?_
   refine⟨(i+1,r.set i (zEb n cs h i)),⟨by omega,?_⟩,by simp only;omega,by kernel_rfl,by kernel_rfl⟩;obtain⟨k,hk⟩:∃ k,n.n.length-i=k+1:=⟨n.n.length-i-1,by omega⟩;rw[hr,hk,show n.n.length-(i+1)=k by omega,fG,f7 _ _ (by simp[zQc]),zTp]
   try simp[zQc]
  ·have hrr:r=zQc n cs h n.n.length:=by rw[hr,show i=n.n.length by omega];simp
   rw[<- hrr] at yS;clear hr hrr;refine zAc<|zAl 2<|S_a [(0,.n r.length)] (ap (lnS bool r) an)<|S_g 1<|zAu ((i:Int)<(r.length:Int)) (by omega)<|zAq 2<|zAb<|zAn 2<|S_a [(2,.yes)] (ap ((by exact zA7 (by simp<;>omega)):(beq 0 0&&(map bool r).length.beq (map bool r).length)=true) an)<|S_a [(4,.ob),(0,.ob),(0,.yes),(2,.v (own 1 (map lsB (K++[r]))))] (ap (blz (map lsB K))<|ap ((by exact zAQ (by simp only[bf,zzLn,zAJ]<;>omega)):((map lsB K).length + [own 1 (map bool r)].length).ble zAJ=true)<|ap ((by exact zA7 (by simp<;>omega)):(0+(map lsB K).length).beq (map lsB K).length=true)<|ap ((zAK (zBH (by kernel_rfl))):own 1 (map lsB K++[own 1 (map bool r)])=own 1 (map lsB (K++[r]))) an)<|S_g 1<|zAb<|zAn 1<|S_i h<|S_g 1 ?_
   exact rnd (h+1,K++[r]) ⟨by omega,yS.symm⟩ (by simp only;omega)
 ·have e:h=n.h.toNat:=by omega
  subst e;refine zAc<|zAh 4<|zAu ((n.h.toNat:Int)<n.h) (by omega)<|zAq 0<|zAl 1<|S_a [(2,.yes)] (ap ((by exact zA7 (by simp<;>omega)):(beq 0 0&&(map lsB K).length.beq (map lsB K).length)=true) an)<|zAR<|zAk<|E_a [(1,.yes),(1,.v (own 1 (map lsB K)))] (ap (blz (map lsB K))<|ap ((zAK zAL):own 1 (take (map lsB K).length (drop 0 (map lsB K)))=own 1 (map lsB K)) an) (own 1 (map lsB K)) [] (by simp[*]) rfl
end Go.Eng
namespace Go.Eng
open Go Go.Proofs
structure Tr (n:Nw) (w:LI) (S:Nat->Nat->Prop):Prop where
 wl:w.length=80
 at_:∀ h c,h<n.h.toNat->c<8->w.getD (h*8+c) 0 = -1\/∃ i,i<n.n.length/\(zAi n).getD i 0=(c:Int)/\w.getD (h*8+c) 0=i/\S h i
 top:∀ h i,h<n.h.toNat->i<n.n.length->S h i->(i:Int)<=w.getD (h*8+((zAi n).getD i 0).toNat) 0
theorem zI7{w:LI}{i j:Nat}{x:Int}(hi:i<w.length):(zRK w i x).getD j 0=if i=j then max (w.getD j 0) x else w.getD j 0:=by
 unfold zRK;rw[zCY];by_cases h:i=j
 ·subst h;rw[if_pos ⟨rfl,hi⟩,if_pos rfl]
 ·rw[if_neg (fun h2=>h h2.1),if_neg h]
theorem Tr.upd{n:Nw}{w:LI}{S:Nat->Nat->Prop}(ho:NwOk n)(ht:Tr n w S){h0 i0:Nat}(hh:h0<n.h.toNat)(hi:i0<n.n.length):Tr n (zRK w (h0*8+((zAi n).getD i0 0).toNat) i0) (fun h i=>S h i\/h=h0/\i=i0):=by
 have kN:=ho.nl.2;have hH:=ho.h.2;have LH:=zBL ho i0 hi;have yI:h0*8+((zAi n).getD i0 0).toNat<w.length:=by rw[ht.wl];omega
 refine⟨by rw[zIW];exact ht.wl,fun h c hh1 hc=>?_,fun h i hh1 hi1 hS=>?_⟩
 ·rw[zI7 yI];split
  ·rename_i he;have e1:h=h0:=by omega
   have e2:((zAi n).getD i0 0).toNat=c:=by omega
   have e3:(zAi n).getD i0 0=(c:Int):=by omega
   subst e1;have hw:=ht.at_ h c hh1 hc;by_cases hm:w.getD (h*8+c) 0<=(i0:Int)
   ·right;exact⟨i0,hi,e3,by rw[iE hm],.inr ⟨rfl,rfl⟩⟩
   ·rcases hw with hw|⟨i,g1,g2,g3,g4⟩
    ·omega
    ·right;exact⟨i,g1,g2,by rw[ig (by omega)];exact g3,.inl g4⟩
  ·rcases ht.at_ h c hh1 hc with hw|⟨i,g1,g2,g3,g4⟩
   ·exact .inl hw
   ·exact .inr ⟨i,g1,g2,g3,.inl g4⟩
 ·rw[zI7 yI];have wJ:=zBL ho i hi1;rcases hS with hS|⟨rfl,rfl⟩
  ·have:=ht.top h i hh1 hi1 hS;split<;>omega
  ·rw[if_pos rfl];omega
theorem Tr.same{n:Nw}{w:LI}{S S':Nat->Nat->Prop}(ht:Tr n w S)(h:∀ a i,a<n.h.toNat->i<n.n.length->(S a i↔S' a i)):Tr n w S' :=
 ⟨ht.wl,fun a c ha hc=>by
  rcases ht.at_ a c ha hc with h1|⟨i,g1,g2,g3,g4⟩
  ·exact .inl h1
  ·exact .inr ⟨i,g1,g2,g3,(h a i ha g1).1 g4⟩,fun a i ha hi hs=>ht.top a i ha hi ((h a i ha hi).2 hs)⟩
theorem Tr.none(n:Nw)(ho:NwOk n):Tr n (replicate 80 (-1)) (fun _ _=>False):=by
 have hH:=ho.h.2;refine⟨by simp,fun h c hh hc=>.inl ?_,fun _ _ _ _ h=>h.elim⟩;rw[zAp (by rw[f5];omega),fS]
end Go.Eng
namespace Go.Eng
open Go Go.Proofs
theorem Tr.begC{n:Nw}{w:LI}{S:Nat->Nat->Prop}(ho:NwOk n)(ht:Tr n w S){h:Nat}(hh:h<n.h.toNat){c:Int×Int}(hc:0<=c.1/\c.1<n.n.length):Tr n (begC n h w c) (fun a i=>S a i\/a=h/\hrB n h i c=true):=by
 unfold Go.Eng.begC;split
 ·rename_i hs;have:=ht.upd ho hh (i0:=c.1.toNat) (by omega);rw[cT hc.1] at this;refine this.same fun a i _ _=>?_;simp only[hrB,hs,fV,decide_eq_true_eq];refine or_congr fq (and_congr fq ⟨fun e=>by omega,fun e=>by omega⟩)
 ·rename_i hs;refine ht.same fun a i _ _=>?_;have h2:has (n.s.getD c.2.toNat []) h=false:=by
   cases hx:has (n.s.getD c.2.toNat []) h
   ·rfl
   ·exact absurd hx hs
  simp only[hrB,h2,dC,bq,and_false,or_false]
theorem Tr.begH{n:Nw}(ho:NwOk n){h:Nat}(hh:h<n.h.toNat):∀ (cs:LP) {w:LI} {S:Nat->Nat->Prop},Tr n w S->(∀ c∈cs,0<=c.1/\c.1<n.n.length)->Tr n (begH n h w cs) (fun a i=>S a i\/a=h/\zEb n cs h i=true)
 |[],w,S,ht,_=>ht.same fun a i _ _=>by simp[zEb]
 |c::cs,w,S,ht,hc=>by
  have h1:=Tr.begH ho hh cs (ht.begC ho hh (hc c d6)) fun d hd=>hc d (cM _ hd);refine Tr.same (w:=Go.Eng.begH n h w (c::cs)) h1 fun a i _ _=>?_;simp only[zEb,fD,bS,or_assoc,and_or_left]
theorem Tr.begN{n:Nw}{cs:LP}(ho:CrW n cs):∀ k,k<=n.h.toNat->Tr n (begN n cs k) (fun a i=>a<k/\zEb n cs a i=true)
 |0,_=>(Tr.none n ho.nw).same fun a i _ _=>by simp
 | k + 1,hk=>by
  rw[zJp];refine(Tr.begH ho.nw (by omega) cs (Tr.begN ho k (by omega)) fun c hc=>(ho.cs c hc).1).same fun a i _ _=>?_;constructor
  ·rintro(⟨h1,h2⟩|⟨rfl,h2⟩)
   ·exact⟨by omega,h2⟩
   ·exact⟨by omega,h2⟩
  ·rintro⟨h1,h2⟩;by_cases e:a=k
   ·subst e;exact .inr ⟨rfl,h2⟩
   ·exact .inl ⟨by omega,h2⟩
theorem RelK.of_tr{n:Nw}{K:List (List Bool)}{w:LI}(h1:K.length=n.h.toNat)(h2:∀ r∈K,r.length=n.n.length)(ht:Tr n w fun a i=>kn K a i=true):RelK n K w :=
 ⟨h1,h2,ht.wl,ht.top,ht.at_⟩
theorem RelK.tr{n:Nw}{K:List (List Bool)}{w:LI}(h:RelK n K w):Tr n w fun a i=>kn K a i=true:=⟨h.wl,h.at_,h.top⟩
theorem zZp{n:Nw}{cs:LP}{a i:Nat}(ha:a<n.h.toNat)(hi:i<n.n.length):kn (zRk n cs n.h.toNat) a i=zEb n cs a i:=by
 unfold kn zRk;rw[zAp (l:=(range n.h.toNat).map fun h=>zQc n cs h n.n.length) (by rw[bf,fj];exact ha)];simp only[dB,fh];unfold zQc;rw[zAp (by rw[bf,fj];exact hi)];simp only[dB,fh]
theorem zX2{n:Nw}{cs:LP}(ho:CrW n cs):RelK n (zRk n cs n.h.toNat) (zJt n cs):=by
 refine RelK.of_tr (by simp[zRk]) (fun r hr=>?_) ?_
 ·obtain⟨h,_,rfl⟩:=bQ.1 hr;simp[zQc]
 ·refine(Tr.begN ho n.h.toNat (bi _)).same fun a i ha hi=>?_;rw[zZp ha hi];exact⟨fun h=>h.2,fun h=>⟨ha,h⟩⟩
end Go.Eng
namespace Go.Eng
open Go Go.Proofs
def nxB(n:Nw)(K:List (List Bool))(w:LI)(h i:Nat):Bool:=kn K h i||(zHf n h n.h.toNat).any fun o=>hld n w o i
def zGU(n:Nw)(K:List (List Bool))(w:LI)(h:Nat):List Bool:=(range n.n.length).map fun i=>nxB n K w h i
def zNT(n:Nw)(K:List (List Bool))(w:LI):List (List Bool):=(range n.h.toNat).map fun h=>zGU n K w h
theorem zXH{n:Nw}{K:List (List Bool)}{w:LI}{a i:Nat}(ha:a<n.h.toNat)(hi:i<n.n.length):kn (zNT n K w) a i=nxB n K w a i:=by
 unfold kn zNT;rw[zAp (l:=(range n.h.toNat).map fun h=>zGU n K w h) (by rw[bf,fj];exact ha)];simp only[dB,fh];unfold zGU;rw[zAp (by rw[bf,fj];exact hi)];simp only[dB,fh]
theorem Tr.skip{n:Nw}{w:LI}{S:Nat->Nat->Prop}(ho:NwOk n)(ht:Tr n w S){h0 c0:Nat}(hh:h0<n.h.toNat)(hc:c0<8):Tr n (zRK w (h0*8+c0) (-1)) S:=by
 have hH:=ho.h.2;have yI:h0*8+c0<w.length:=by rw[ht.wl];omega
 have hge : -1<=w.getD (h0*8+c0) 0:=by
  rcases ht.at_ h0 c0 hh hc with h|⟨i,_,_,h,_⟩<;>omega
 have he:∀ j,(zRK w (h0*8+c0) (-1)).getD j 0=w.getD j 0:=fun j=>by
  rw[zI7 yI];split
  ·rename_i e;subst e;exact ig hge
  ·rfl
 exact⟨by rw[zIW];exact ht.wl,fun h c h1 h2=>by rw[he];exact ht.at_ h c h1 h2,fun h i h1 h2 h3=>by rw[he];exact ht.top h i h1 h2 h3⟩
theorem Tr.nxtR{n:Nw}{now:LI}{S0:Nat->Nat->Prop}(ho:NwOk n)(h0:Tr n now S0){h o:Nat}(hh:h<n.h.toNat)(uI:o<n.h.toNat){w:LI}{S:Nat->Nat->Prop}(ht:Tr n w S):∀ k,k<=8->Tr n (nxtR now h o w k) (fun a i=>S a i\/a=h/\(zAi n).getD i 0<(k:Int)/\hld n now o i=true)
 |0,_=>Tr.same (w:=Go.Eng.nxtR now h o w 0) ht fun a i _ hi=>by
  have:=zBL ho i hi;exact⟨.inl,fun h=>h.elim id fun h=>by have:=h.2.1;omega⟩
 | k + 1,hk=>by
  have ih:=Tr.nxtR ho h0 hh uI ht k (by omega);have e:Go.Eng.nxtR now h o w (k+1)=zRK (Go.Eng.nxtR now h o w k) (h*8+k) (now.getD (o*8+k) 0):=by
   simp only[Go.Eng.nxtR,bV,cv,bY,cB]
  rw[e];rcases h0.at_ o k uI (by omega) with hm|⟨j,g1,g2,g3,_⟩
  ·rw[hm];refine(ih.skip ho hh (by omega)).same fun a i _ hi=>or_congr fq (and_congr fq ⟨fun⟨x,y⟩=>⟨by omega,y⟩,fun⟨x,y⟩=>⟨?_,y⟩⟩);have hf:=zBL ho i hi;by_cases ek:(zAi n).getD i 0=(k:Int)
   ·simp only[hld,decide_eq_true_eq,ek,b7,hm] at y;omega
   ·omega
  ·have:=ih.upd ho hh g1;rw[g2,b7] at this;rw[g3];refine this.same fun a i _ hi=>?_;have hf:=zBL ho i hi;constructor
   ·rintro((x|⟨x,y,z⟩)|⟨rfl,rfl⟩)
    ·exact .inl x
    ·exact .inr ⟨x,by omega,z⟩
    ·refine .inr ⟨rfl,by omega,?_⟩;simp only[hld,decide_eq_true_eq,g2,b7,g3]
   ·rintro(x|⟨rfl,y,z⟩)
    ·exact .inl (.inl x)
    ·by_cases ek:(zAi n).getD i 0=(k:Int)
     ·simp only[hld,decide_eq_true_eq,ek,b7,g3] at z;exact .inr ⟨rfl,by omega⟩
     ·exact .inl (.inr ⟨rfl,by omega,z⟩)
theorem Tr.nxtH{n:Nw}{now:LI}{S0:Nat->Nat->Prop}(ho:NwOk n)(h0:Tr n now S0){h:Nat}(hh:h<n.h.toNat):∀ (l:LN),(∀ o∈l,o<n.h.toNat)->∀ {w:LI} {S:Nat->Nat->Prop},Tr n w S->Tr n (nxtH now h w l) (fun a i=>S a i\/a=h/\(l.any fun o=>hld n now o i)=true)
 |[],_,w,S,ht=>Tr.same (w:=Go.Eng.nxtH now h w []) ht fun a i _ _=>by simp
 |o::l,hl,w,S,ht=>by
  have h1:=Tr.nxtH ho h0 hh l (fun x hx=>hl x (cM _ hx)) (Tr.nxtR ho h0 hh (hl o d6) ht 8 (bi _));refine Tr.same (w:=Go.Eng.nxtH now h w (o::l)) h1 fun a i _ hi=>?_;have hf:=zBL ho i hi;have kN:=ho.nl.2;simp only[fD,bS,and_or_left,or_assoc];refine or_congr fq (or_congr (and_congr fq ⟨fun x=>x.2,fun x=>⟨by omega,x⟩⟩) fq)
theorem Tr.nxtN{n:Nw}{now:LI}{S0:Nat->Nat->Prop}(ho:NwOk n)(h0:Tr n now S0):∀ k,k<=n.h.toNat->Tr n (nxtN n now k) (fun a i=>S0 a i\/a<k/\((zHf n a n.h.toNat).any fun o=>hld n now o i)=true)
 |0,_=>Tr.same (w:=Go.Eng.nxtN n now 0) h0 fun a i _ _=>by simp
 | k + 1,hk=>by
  have ih:=Tr.nxtN ho h0 k (by omega);have e:Go.Eng.nxtN n now (k+1)=Go.Eng.nxtH now k (Go.Eng.nxtN n now k) (zHf n k n.h.toNat):=by
   simp only[Go.Eng.nxtN,bV,cv,bY,cB]
  rw[e];refine(Tr.nxtH ho h0 (by omega) _ (fun o hm=>bx.1 (bT.1 hm).1) ih).same fun a i _ _=>?_;constructor
  ·rintro((x|⟨x,y⟩)|⟨rfl,y⟩)
   ·exact .inl x
   ·exact .inr ⟨by omega,y⟩
   ·exact .inr ⟨by omega,y⟩
  ·rintro(x|⟨x,y⟩)
   ·exact .inl (.inl x)
   ·by_cases ea:a=k
    ·subst ea;exact .inr ⟨rfl,y⟩
    ·exact .inl (.inr ⟨by omega,y⟩)
theorem zUY{n:Nw}(ho:NwOk n){K:List (List Bool)}{w:LI}(h:RelK n K w):RelK n (zNT n K w) (zCv n w):=by
 refine RelK.of_tr (by simp[zNT]) (fun r hr=>?_) ?_
 ·obtain⟨h,_,rfl⟩:=bQ.1 hr;simp[zGU]
 ·refine(Tr.nxtN ho h.tr n.h.toNat (bi _)).same fun a i ha hi=>?_;rw[zXH ha hi,nxB,bS];exact or_congr fq ⟨fun x=>x.2,fun x=>⟨ha,x⟩⟩
end Go.Eng
set_option maxRecDepth 10000
set_option maxHeartbeats 4000000
namespace Go.Eng
open Go Go.Proofs
instance (n:Nw) (i j:Nat):Decidable (chn n i j):=inferInstanceAs (Decidable ((zAi n).getD i 0=(zAi n).getD j 0))
def zMM(n:Nw)(K:List (List Bool))(h i:Nat):Bool:=kn K h i && !((range n.n.length).any fun k=>decide (i<k)&&(decide (chn n k i)&&kn K h k))
theorem zS3{n:Nw}{K:List (List Bool)}{w:LI}{h i:Nat}(ho:NwOk n)(hr:RelK n K w)(hh:h<n.h.toNat)(hi:i<n.n.length):zMM n K h i=hld n w h i:=by
 unfold zMM;cases h1:kn K h i
 ·rw[zVf ho hr hh hi (.inl h1)];rfl
 ·cases h2:(range n.n.length).any fun k=>decide (i<k)&&(decide (chn n k i)&&kn K h k)
  ·rw[zY1 ho hr hh hi h1 fun k hk hc ww=>?_]
   ·rfl
   ·have h3:=(cD.1 h2) k (bx.2 hk);simpa[ww,hc] using h3
  ·obtain⟨k,hk,h3⟩:=bP.1 h2;simp only[bb,decide_eq_true_eq] at h3;rw[zVf ho hr hh hi (.inr ⟨k,bx.1 hk,h3.2.1,h3.1,h3.2.2⟩)];rfl
theorem f113(n:Nw)(K:List (List Bool))(h i:Nat)(ho:NwOk n)(hr:∃ w,RelK n K w)(hh:h<n.h.toNat)(hi:i<n.n.length):FG 113 [nwV n,knV K,I h,I i] (.bool (zMM n K h i)):=by
 obtain⟨w,hr⟩:=hr;rw[zS3 ho hr hh hi];exact zZ1 n K w h i ho hr hh hi
def nxP(n:Nw)(K:List (List Bool))(w:LI)(h o j:Nat):Bool:=kn K h j||(zHf n h o).any fun o=>hld n w o j
theorem zV4{n:Nw}{K:List (List Bool)}{w:LI}{h o j:Nat}:nxP n K w h (o+1) j=(nxP n K w h o j||zGH n h o&&hld n w o j):=by
 unfold nxP;rw[zKr];cases zGH n h o<;>simp[Bool.or_assoc]
theorem zZ5{P H:Nat->Bool}{a:Bool}{q:List Bool}{m i:Nat}(hq:∀ j,j<m->q.getD j false=(P j||(a&&(decide (j<i)&&H j))))(hi:i<m):q.getD i false=P i:=by
 rw[hq i hi,decide_eq_false (fC i)];cases a<;>simp
theorem zWD{P H:Nat->Bool}{a:Bool}{q:List Bool}{m i:Nat}{x:Bool}(hq:∀ j,j<m->q.getD j false=(P j||(a&&(decide (j<i)&&H j))))(hl:q.length=m)(hi:i<m)(ha:a=true)(hx:x=(P i||H i))(j:Nat)(hj:j<m):(q.set i x).getD j false=(P j||(a&&(decide (j<i+1)&&H j))):=by
 subst ha;by_cases e:i=j
 ·subst e;rw[zAp (by rw[dN];omega),List.getElem_set_self,hx,decide_eq_true (Nat.lt_succ_self i),ci,ci]
 ·rw[zAp (by rw[dN];omega),List.getElem_set_ne e,<- zAp (d:=false) (by omega),hq j hj];by_cases h:j<i
  ·rw[decide_eq_true h,decide_eq_true (by omega:j<i+1)]
  ·rw[decide_eq_false h,decide_eq_false (by omega:¬ j<i+1)]
theorem zWI{n:Nw}{K:List (List Bool)}{w:LI}{h o i m:Nat}{q:List Bool}(hq:∀ j,j<m->q.getD j false=(nxP n K w h o j||(zGH n h o&&(decide (j<i)&&hld n w o j))))(hx:zGH n h o=false\/m<=i)(j:Nat)(hj:j<m):q.getD j false=nxP n K w h (o+1) j:=by
 rw[hq j hj,zV4];rcases hx with hx|hx
 ·rw[hx];rfl
 ·rw[decide_eq_true (by omega:j<i),ci]
theorem zZe{n:Nw}{K:List (List Bool)}{w:LI}{h:Nat}{r:List Bool}(hl:r.length=n.n.length)(hr:∀ j,j<n.n.length->r.getD j false=nxP n K w h n.h.toNat j):r=zGU n K w h:=by
 refine iC (by simp[zGU,hl]) fun j h1 h2=>?_;have:=hr j (by omega);rw[zAp h1] at this;rw[this];simp[zGU,nxB,nxP]
theorem zad(n:Nw)(K:List (List Bool))(w:LI)(ho:NwOk n)(hr:RelK n K w):FG 115 [nwV n,knV K] (.own 1 ((zNT n K w).map lsB)):=by
 have hb:=ho.h;have kN:=ho.nl;have ug:=ho.ll;have kd:=hr.len;have hrw:∃ w,RelK n K w:=⟨w,hr⟩;refine zAe Tryz.f115 ?_;refine zAh 2<|zAh 1<|zAc<|zAh 1<|zAd 0 ?_
 refine zAo (fun(h,L)=>h<=n.h.toNat/\L=(range h).map fun h=>zGU n K w h) (fun(h,L)=>[(5,.own 1 (L.map lsB)),(6,I (h:Nat))]) (fun(h,_)=>n.h.toNat-h) ((0:Nat),([]:List (List Bool))) ⟨by omega,rfl⟩ fun(h,L) ⟨hh,hL⟩=>?_;have hLl:L.length=h:=by rw[hL];simp
 by_cases hhl:(h:Int)<n.h
 ·have yG:(K.getD h []).length=n.n.length:=zBt (d:=[]) hr.row h (by omega);refine zAc<|zAh 4<|zAs ((h:Int)<n.h) (by omega)<|zAf<|zAc<|zAd 1<|zAl 3<|S_a [(2,.v (sl (map bool (K.getD h []))))] (ap (zBi [] (by omega):(map bls K)[h]? = some (sl (map bool (K.getD h [])))) an)<|zAn 1<|S_a [(0,.ob),(0,.ob),(0,.ob),(3,.ob)] (ap ((by exact all_map _):((map bool (K.getD h [])).all fun x=>x.plain)=true)<|ap ((by exact all_map _):((map bool (K.getD h [])).all fun y=>y.cells.length.beq ((fun x=>x.size) Tryz.prog.types[4])&&y.cells.all fun q=>q.oneCell)=true)<|ap ((by exact dc.2 (zDU _)):(zBq (map bool (K.getD h []))).isEmpty=true)<|ap ((by exact zAQ (by simp only[bf,zzLn,zAJ]<;>omega)):(0+(map bool (K.getD h [])).length).ble zAJ=true) an)<|S_g 1<|zAc<|zAh 1<|zAd 2 ?_
  refine zAo (fun(o,r)=>o<=n.h.toNat/\r.length=n.n.length/\∀ j,j<n.n.length->r.getD j false=nxP n K w h o j) (fun(o,r)=>[(7,.own 1 (r.map bool)),(8,I (o:Nat))]) (fun(o,_)=>n.h.toNat-o) ((0:Nat),K.getD h []) ⟨by omega,yG,fun j _=>by simp[nxP,zHf,kn]⟩ fun(o,r) ⟨uI,kM,jU⟩=>?_;by_cases qO:(o:Int)<n.h
  ·refine zAc<|zAh 4<|zAs ((o:Int)<n.h) (by omega)<|zAf<|zAc<|zAd 3<|zAh 1<|zAd 4 ?_
   refine zAo (fun(i,q)=>i<=n.n.length/\q.length=n.n.length/\∀ j,j<n.n.length->q.getD j false=(nxP n K w h o j||(zGH n h o&&(decide (j<i)&&hld n w o j)))) (fun(i,q)=>[(7,.own 1 (q.map bool)),(9,I (i:Nat))]) (fun(i,_)=>n.n.length-i) ((0:Nat),r) ⟨by omega,kM,fun j hj=>by rw[jU j hj,decide_eq_false (bH j),di,dC,fU]⟩ fun(i,q) ⟨hi,kH,hqv⟩=>?_;clear jU;by_cases yB:(i:Int)<n.n.length
   ·have jP:=zZ5 hqv (by omega);clear hL;refine zAc<|zAl 2<|S_a [(0,.n q.length)] (ap (lnS bool q) an)<|zAn 2<|zD3 32 ((i:Int)<(q.length:Int)) (by omega) (zAn 3<|S_a [(10,.ret (bool (zGH n (h:Int) (o:Int))) [])] (ap (f114 n ((h:Int)) ((o:Int)) (by first|omega|(simp<;>omega))) an)<|S_g 1<|zDw (zGH n (h:Int) (o:Int)) (fun k0=>(zAf<|zAc<|zAd 5<|zAb<|zAn 4<|S_a [(2,.ob),(1,.n i)] (ap ((by exact zAt (by simp only[bf,zzLn]<;>omega)):decide (i<(map bool q).length)=true)<|ap ((by simp):some (0+i)=some i) an)<|S_a [(0,.cs false ([bool (q.getD i false)]))] (ap (zDe (q:=own 1 (map bool q)) (xs:=map bool q) (x:=bool (q.getD i false)) rfl (zBi false (by omega)):zAy 7 (own 1 (map bool q)) [] i 0 1=some (false,[bool (q.getD i false)])) an)<|zAn 1<|zEq 46 (q.getD i false) (fun k1=>(zAn 6<|S_a [(2,.ob),(1,.n i)] (ap ((by exact zAt (by simp only[bf,zzLn]<;>omega)):decide (i<(map bool q).length)=true)<|ap ((by simp):some (0+i)=some i) an)<|S_a [(8,.root (own 1 (map bool (q.set i true))) true)] (ap (zOD (zBi false (by omega)) zFo:zBG (own 1 (map bool q)) [] i 0 (bool true).cells=some (own 1 (map bool (q.set i true)))/\zAP (own 1 (map bool q)) (own 1 (map bool (q.set i true))) []=true) an)<|zAR<|zAb<|zAn 1<|S_i i<|S_g 1 ?_)) (fun k1=>(zAn 4<|S_a [(12,.ret (bool (zMM n K o i)) [])] (ap (f113 n K o i (by omega) (by omega) (by first|omega|(simp<;>omega)) (by first|omega|(simp<;>omega))) an)<|zAn 1<|S_a [(2,.ob),(1,.n i)] (ap ((by exact zAt (by simp only[bf,zzLn]<;>omega)):decide (i<(map bool q).length)=true)<|ap ((by simp):some (0+i)=some i) an)<|S_a [(8,.root (own 1 (map bool (q.set i (zMM n K o i)))) true)] (ap (zOD (zBi false (by omega)) zFo:zBG (own 1 (map bool q)) [] i 0 (bool (zMM n K o i)).cells=some (own 1 (map bool (q.set i (zMM n K o i))))/\zAP (own 1 (map bool q)) (own 1 (map bool (q.set i (zMM n K o i)))) []=true) an)<|zAR<|zAb<|zAn 1<|S_i i<|S_g 1 ?_)))) (fun k0=>(zAq 4<|zAb<|zAn 1<|S_i o<|S_g 1 ?_)))
    ·exact rnd (i+1,q.set i true) ⟨by omega,by rw[dN];exact kH,zWD hqv kH (by omega) (by assumption) (by rw[<- jP,k1];rfl)⟩ (by simp only;omega)
    ·exact rnd (i+1,q.set i (zMM n K o i)) ⟨by omega,by rw[dN];exact kH,zWD hqv kH (by omega) (by assumption) (by rw[<- jP,k1,zS3 ho hr (by omega) (by omega)];rfl)⟩ (by simp only;omega)
    ·exact rnd (o+1,q) ⟨by omega,kH,zWI hqv (.inl (by assumption))⟩ (by simp only;omega)
   ·clear hL;refine zAc<|zAl 2<|S_a [(0,.n q.length)] (ap (lnS bool q) an)<|zAn 2<|zHx 32 ((i:Int)<(q.length:Int)) (by omega) (S_g 5<|zAD<|zAq 4<|zAb<|zAn 1<|S_i o<|S_g 1 ?_)
    exact rnd (o+1,q) ⟨by omega,kH,zWI hqv (.inr (by omega))⟩ (by simp only;omega)
  ·have ho2:o=n.h.toNat:=by omega
   subst ho2;have hrr:=zZe kM jU;have yS:L++[r]=(range (h+1)).map fun h=>zGU n K w h:=by
    rw[hL,hrr,bV,cJ,bO,d5]
   clear hL hrr jU;refine zAc<|zAh 4<|zAu ((n.h.toNat:Int)<n.h) (by omega)<|zAq 2<|zAb<|zAn 2<|S_a [(2,.yes)] (ap ((by exact zA7 (by simp<;>omega)):(beq 0 0&&(map bool r).length.beq (map bool r).length)=true) an)<|S_a [(4,.ob),(0,.ob),(0,.yes),(2,.v (own 1 (map lsB (L++[r]))))] (ap (blz (map lsB L))<|ap ((by exact zAQ (by simp only[bf,zzLn,zAJ]<;>omega)):((map lsB L).length + [own 1 (map bool r)].length).ble zAJ=true)<|ap ((by exact zA7 (by simp<;>omega)):(0+(map lsB L).length).beq (map lsB L).length=true)<|ap ((zAK (zBH (by kernel_rfl))):own 1 (map lsB L++[own 1 (map bool r)])=own 1 (map lsB (L++[r]))) an)<|S_g 1<|zAb<|zAn 1<|S_i h<|S_g 1 ?_
   exact rnd (h+1,L++[r]) ⟨by omega,yS⟩ (by simp only;omega)
 ·have e:h=n.h.toNat:=by omega
  subst e;have hLe:L=zNT n K w:=hL;clear hL;refine zAc<|zAh 4<|zAu ((n.h.toNat:Int)<n.h) (by omega)<|zAq 0<|zAl 1<|S_a [(2,.yes)] (ap ((by exact zA7 (by simp<;>omega)):(beq 0 0&&(map lsB L).length.beq (map lsB L).length)=true) an)<|zAR<|zAk<|E_a [(1,.yes),(1,.v (own 1 (map lsB L)))] (ap (blz (map lsB L))<|ap ((zAK zAL):own 1 (take (map lsB L).length (drop 0 (map lsB L)))=own 1 (map lsB L)) an) (own 1 (map lsB L)) [] ?_ rfl
  rw[hLe]
end Go.Eng
set_option maxRecDepth 10000
set_option maxHeartbeats 4000000
namespace Go.Eng
open Go Go.Proofs
def zLI(n:Nw)(K:List (List Bool)):List (List Bool):=(range n.h.toNat).map fun h=>(range n.n.length).map fun i=>kn K h i||(zHf n h n.h.toNat).any fun o=>zMM n K o i
theorem zPV{n:Nw}{K:List (List Bool)}{w:LI}(ho:NwOk n)(hr:RelK n K w):zLI n K=zNT n K w:=by
 unfold zLI zNT zGU nxB;refine de fun h _=>de fun i hi=>?_;congr 1;rw[cA,bP,bP];refine exists_congr fun o=>and_congr_right fun hm=>?_;rw[zS3 ho hr (bx.1 (bT.1 hm).1) (bx.1 hi)]
theorem f115(n:Nw)(K:List (List Bool))(ho:NwOk n)(hr:∃ w,RelK n K w):FG 115 [nwV n,knV K] (.own 1 ((zLI n K).map lsB)):=by
 obtain⟨w,hr⟩:=hr;rw[zPV ho hr];exact zad n K w ho hr
def zDz(n:Nw)(cs:LP):Nat->List (List Bool)
 |0=>zRk n cs n.h.toNat|k+1=>zLI n (zDz n cs k)
theorem zEQ{n:Nw}{cs:LP}(ho:CrW n cs):∀ k,RelK n (zDz n cs k) (zAM n cs k)
 |0=>zX2 ho|k+1=>by
  have ih:=zEQ ho k;show RelK n (zLI n (zDz n cs k)) (zCv n (zAM n cs k))
  rw[zPV ho.nw ih];exact zUY ho.nw ih
end Go.Eng
set_option maxRecDepth 10000
set_option maxHeartbeats 4000000
namespace Go.Eng
open Go Go.Proofs
theorem zIf{α:Type}{g:α->PV}(h:∀ x,(g x).free=true):∀ l:List α,zDu (l.map g)=true
 |[]=>by simp[zDu]|a::l=>by simp[zDu,h a,zIf h l]
theorem zEW(K:List (List Bool)):(own 1 (K.map lsB)).free=true:=by
 simp only[PV.free];exact zIf (fun r=>by simp only[PV.free];exact zIf (fun b=>by simp[PV.free]) r) K
theorem f95(n:Nw)(cs:LP)(e:Int)(ho:CrW n cs)(he:0<=e/\e<=1000):FG 95 [nwV n,prs cs,I e] (.own 1 ((zDz n cs e.toNat).map lsB)):=by
 have hn:=ho.nw;have hb:=hn.h;refine zAe Tryz.f95 ?_;refine zAh 2<|zAl 2<|S_a [(8,.ret (own 1 (map lsB (zRk n cs n.h.toNat))) [])] (ap (f112 n cs (by omega)) an)<|S_g 1<|zAc<|zAh 1<|zAd 0 ?_
 refine zAo (fun(K,i)=>i<=e.toNat/\K=zDz n cs i) (fun(K,i)=>[(7,.own 1 (K.map lsB)),(8,I (i:Nat))]) (fun(_,i)=>e.toNat-i) (zRk n cs n.h.toNat,(0:Nat)) ⟨by omega,rfl⟩ fun(K,i) ⟨hi,hK⟩=>?_;have kM:∃ w,RelK n K w:=⟨_,hK▸zEQ ho i⟩;have kd:K.length=n.h.toNat:=by obtain⟨_,h⟩:=kM;exact h.len
 by_cases yB:(i:Int)<e
 ·have yS:zLI n K=zDz n cs (i+1):=by rw[hK];rfl
  clear hK;refine zAc<|zAh 3<|zAs ((i:Int)<e) (by omega)<|zAf<|zAc<|zAd 1<|zAb<|zAn 2<|S_a [(5,.ob),(0,.v (sl (map bls K))),(2,.ret (own 1 (map lsB (zLI n K))) []),(1,.yes)] (ap (blz (map lsB K))<|ap (frC lsB bls K)<|ap (f115 n K (by omega) (by omega))<|ap (?_:(own 1 (map lsB (zLI n K))).free=true) an)<|S_g 1<|zAb<|zAn 1<|S_i i<|S_g 1 ?_
  ·exact zEW _
  exact rnd (zLI n K,i+1) ⟨by omega,yS⟩ (by simp only;omega)
 ·have e2:i=e.toNat:=by omega
  subst e2;clear hi;rw[hK];refine zAc<|zAh 3<|zAu ((e.toNat:Int)<e) (by omega)<|zAq 0<|zAl 1<|S_a [(2,.yes)] (ap ((by exact zA7 (by simp<;>omega)):(beq 0 0&&(map lsB (zDz n cs e.toNat)).length.beq (map lsB (zDz n cs e.toNat)).length)=true) an)<|zAR<|zAk<|E_z [(1,.yes),(1,.v (own 1 (map lsB (zDz n cs e.toNat))))] (ap (blz (map lsB (zDz n cs e.toNat)))<|ap ((zAK zAL):own 1 (take (map lsB (zDz n cs e.toNat)).length (drop 0 (map lsB (zDz n cs e.toNat))))=own 1 (map lsB (zDz n cs e.toNat))) an)
end Go.Eng
set_option maxRecDepth 10000
set_option maxHeartbeats 4000000
namespace Go.Eng
open Go Go.Proofs
def gpB(n:Nw)(K:List (List Bool))(h i:Nat):Bool:=zMM n K h i&&decide (0<=zE7 n i)
def gpR(n:Nw)(K:List (List Bool))(h k:Nat):LP:=((range k).filter fun i=>gpB n K h i).map fun(i:Nat)=>((h:Int),(i:Int))
def gpN(n:Nw)(K:List (List Bool))(h:Nat):LP:=(range h).flatMap fun h=>gpR n K h n.n.length
theorem zU6{n:Nw}{K:List (List Bool)}{h k:Nat}:gpR n K h (k+1)=if gpB n K h k=true then gpR n K h k++[((h:Int),(k:Int))] else gpR n K h k:=by
 unfold gpR;rw[bV,cR];cases hg:gpB n K h k<;>simp[hg]
theorem zQP{n:Nw}{K:List (List Bool)}{h:Nat}:gpN n K (h+1)=gpN n K h++gpR n K h n.n.length:=by
 simp[gpN,bV,dD]
theorem zSV{n:Nw}{K:List (List Bool)}{h k:Nat}:(gpR n K h k).length<=k:=by
 unfold gpR;rw[bf];exact bN (bJ _ _) (by simp)
theorem zSc{n:Nw}{K:List (List Bool)}(ho:NwOk n):∀ {h:Nat},(gpN n K h).length<=8*h
 |0=>by simp[gpN]|h+1=>by
  rw[zQP,bt];have:=zSc (K:=K) ho (h:=h);have h2:=zSV (n:=n) (K:=K) (h:=h) (k:=n.n.length);have:=ho.nl.2;omega
theorem f94(n:Nw)(K:List (List Bool))(ho:NwOk n)(hr:∃ w,RelK n K w):FG 94 [nwV n,knV K] (.own 2 ((gpN n K n.h.toNat).map prV)):=by
 have hb:=ho.h;have kN:=ho.nl;refine zAe Tryz.f94 ?_;refine zAh 2<|zAh 1<|zAc<|zAh 1<|zAd 0 ?_
 refine zAo (fun(h,L)=>h<=n.h.toNat/\L=gpN n K h) (fun(h,L)=>[(5,.own 2 (L.map prV)),(6,I (h:Nat))]) (fun(h,_)=>n.h.toNat-h) ((0:Nat),([]:LP)) ⟨by omega,rfl⟩ fun(h,L) ⟨hh,hL⟩=>?_;have hLl:L.length<=8*h:=hL▸zSc ho;by_cases hhl:(h:Int)<n.h
 ·refine zAc<|zAh 4<|zAs ((h:Int)<n.h) (by omega)<|zAf<|zAc<|zAd 1<|zAh 1<|zAd 2 ?_
  refine zAo (fun(i,M)=>i<=n.n.length/\M=L++gpR n K h i) (fun(i,M)=>[(5,.own 2 (M.map prV)),(7,I (i:Nat))]) (fun(i,_)=>n.n.length-i) ((0:Nat),L) ⟨by omega,by simp[gpR]⟩ fun(i,M) ⟨hi,hM⟩=>?_;have hMl:M.length<=8*h+8:=by
   rw[hM,bt];have:=zSV (n:=n) (K:=K) (h:=h) (k:=i);omega
  by_cases yB:(i:Int)<n.n.length
  ·have yS:=zU6 (n:=n) (K:=K) (h:=h) (k:=i);have hx:∀ b:Bool,gpB n K h i=b->L++gpR n K h (i+1)=if b=true then M++[((h:Int),(i:Int))] else M:=fun b hb=>by
    rw[yS,hb,hM];cases b<;>simp
   clear hL hM yS;refine zAc<|zAl 3<|S_a [(0,.n n.n.length)] (ap (lnS ntV n.n) an)<|S_g 1<|zAs ((i:Int)<(n.n.length:Int)) (by omega)<|zAf<|zAc<|zAd 3<|zAl 4<|S_a [(12,.ret (bool (zMM n K h i)) [])] (ap (f113 n K h i (by omega) (by omega) (by first|omega|(simp<;>omega)) (by first|omega|(simp<;>omega))) an)<|zAn 1<|zEq 26 (zMM n K h i) (fun k0=>(zAn 2<|S_a [(8,.ret (I (zE7 n (i:Int))) [])] (ap (f143 n ((i:Int)) (by first|omega|(simp<;>omega))) an)<|S_g 2<|zB2 (zE7 n (i:Int)>=0) (fun k1=>(zAb<|zAn 5<|S_a [(4,.ob),(0,.ob),(0,.yes),(2,.v (own 2 (map prV (M++[((h:Int),(i:Int))]))))] (ap (blz (map prV M))<|ap ((by exact zAQ (by simp only[bf,zzLn,zAJ]<;>omega)):((map prV M).length + [agg [I (h:Int),I (i:Int)]].length).ble zAJ=true)<|ap ((by exact zA7 (by simp<;>omega)):(0+(map prV M).length).beq (map prV M).length=true)<|ap ((zAK (zBH (by kernel_rfl))):own 2 (map prV M++[agg [I (h:Int),I (i:Int)]])=own 2 (map prV (M++[((h:Int),(i:Int))]))) an)<|S_g 1<|zAb<|zAn 1<|S_i i<|S_g 1 ?_)) (fun k1=>(zAf<|zAb<|zAn 1<|S_i i<|S_g 1 ?_)))) (fun k0=>(S_g 5<|zAD<|zAf<|zAb<|zAn 1<|S_i i<|S_g 1 ?_))
   ·exact rnd (i+1,M++[((h:Int),(i:Int))]) ⟨by omega,(hx true (by rw[gpB,k0,decide_eq_true (by omega)];rfl)).symm⟩ (by simp only;omega)
   ·exact rnd (i+1,M) ⟨by omega,(hx false (by rw[gpB,k0,decide_eq_false (by omega)];rfl)).symm⟩ (by simp only;omega)
   ·exact rnd (i+1,M) ⟨by omega,(hx false (by rw[gpB,k0];rfl)).symm⟩ (by simp only;omega)
  ·have ub:M=gpN n K (h+1):=by rw[hM,hL,zQP,show i=n.n.length by omega]
   clear hL hM;refine zAc<|zAl 3<|S_a [(0,.n n.n.length)] (ap (lnS ntV n.n) an)<|S_g 1<|zAu ((i:Int)<(n.n.length:Int)) (by omega)<|zAq 2<|zAb<|zAn 1<|S_i h<|S_g 1 ?_
   exact rnd (h+1,M) ⟨by omega,ub⟩ (by simp only;omega)
 ·have e:h=n.h.toNat:=by omega
  subst e;rw[<- hL];clear hL;refine zAc<|zAh 4<|zAu ((n.h.toNat:Int)<n.h) (by omega)<|zAq 0<|zAl 1<|S_a [(2,.yes)] (ap ((by exact zA7 (by simp<;>omega)):(beq 0 0&&(map prV L).length.beq (map prV L).length)=true) an)<|zAR<|zAk<|E_z [(1,.yes),(1,.v (own 2 (map prV L)))] (ap (blz (map prV L))<|ap ((zAK zAL):own 2 (take (map prV L).length (drop 0 (map prV L)))=own 2 (map prV L)) an)
end Go.Eng
namespace Go.Eng
open Go Go.Proofs
theorem zU5{n:Nw}(ho:NwOk n){i:Nat}(hi:i<n.n.length):(0<=zE7 n i)↔(zAx n).getD i 0≠i:=by
 obtain⟨l,h1,h2,h3,h4,h5⟩:=zBX ho hi;rw[h1];rcases zHy ho hi with⟨g1,g2⟩|⟨m,g1,g2,g3,g4,_⟩
 ·rw[g1];have:=g2 l h2 h3;constructor<;>intro h<;>omega
 ·rw[g1];have:=h5 m g3 g4;constructor<;>intro h<;>omega
theorem zYZ{n:Nw}{K:List (List Bool)}{w:LI}(ho:NwOk n)(hr:RelK n K w){h i:Nat}(hh:h<n.h.toNat)(hi:i<n.n.length):gpB n K h i=zKS n w h i:=by
 unfold gpB zKS;rw[zS3 ho hr hh hi];unfold hld;congr 1;exact decide_eq_decide.2 (zU5 ho hi)
theorem zTT{n:Nw}{K:List (List Bool)}{w:LI}(ho:NwOk n)(hr:RelK n K w):gpN n K n.h.toNat=zAI n w:=by
 unfold gpN zAI zRX gpR zOe;rw[f0,f0];congr 1;refine de fun h hh=>?_;congr 1;exact dv fun i hi=>zYZ ho hr (bx.1 hh) (bx.1 hi)
end Go.Eng
namespace Go.Eng
open Go Go.Proofs
theorem zW3{a b v:Int}:v<=max a b↔v<=a\/v<=b:=by omega
theorem zUg{now w:LI}{h o:Nat}(hw:w.length=80)(hh:h<10){j:Nat}{v:Int}:∀ k,k<=8->(v<=(nxtR now h o w k).getD j 0↔v<=w.getD j 0\/∃ c,c<k/\j=h*8+c/\v<=now.getD (o*8+c) 0)
 |0,_=>by
  refine⟨.inl,fun h=>h.elim id fun⟨c,h,_⟩=>absurd h (bH c)⟩
 | k + 1,hk=>by
  have ih:=zUg (now:=now) (o:=o) hw hh (j:=j) (v:=v) k (by omega);rw[zJX,zI7 (by rw[zH0,hw];omega)];split
  ·rename_i e;rw[zW3,ih];constructor
   ·rintro((h1|⟨c,h1,h2,h3⟩)|h1)
    ·exact .inl h1
    ·exact .inr ⟨c,by omega,h2,h3⟩
    ·exact .inr ⟨k,by omega,e.symm,h1⟩
   ·rintro(h1|⟨c,h1,h2,h3⟩)
    ·exact .inl (.inl h1)
    ·obtain rfl:c=k:=by omega
     exact .inr h3
  ·rename_i e;rw[ih];refine or_congr fq ⟨fun⟨c,h1,h2,h3⟩=>⟨c,by omega,h2,h3⟩,fun⟨c,h1,h2,h3⟩=>⟨c,?_,h2,h3⟩⟩;by_cases hc:c=k
   ·subst hc;exact absurd h2.symm e
   ·omega
theorem zSC{now:LI}{h:Nat}(hh:h<10){j:Nat}{v:Int}:∀ (l:LN) {w:LI},w.length=80->(v<=(nxtH now h w l).getD j 0↔v<=w.getD j 0\/∃ o∈l,∃ c,c<8/\j=h*8+c/\v<=now.getD (o*8+c) 0)
 |[],w,hw=>⟨.inl,fun h=>h.elim id fun⟨o,h,_⟩=>absurd h List.not_mem_nil⟩
 | o :: l,w,hw=>by
  have ih:=zSC (now:=now) hh (j:=j) (v:=v) l (w:=nxtR now h o w 8) (by rw[zH0,hw]);show v<=(nxtH now h (nxtR now h o w 8) l).getD j 0↔_
  rw[ih,zUg hw hh 8 (bi _)];constructor
  ·rintro((h1|h1)|⟨o2,h1,h2⟩)
   ·exact .inl h1
   ·exact .inr ⟨o,d6,h1⟩
   ·exact .inr ⟨o2,cM _ h1,h2⟩
  ·rintro(h1|⟨o2,h1,h2⟩)
   ·exact .inl (.inl h1)
   ·rcases bD.1 h1 with e|h3
    ·subst e;exact .inl (.inr h2)
    ·exact .inr ⟨o2,h3,h2⟩
theorem zR3{n:Nw}{now:LI}(hw:now.length=80){j:Nat}{v:Int}:∀ k,k<=10->(v<=(nxtN n now k).getD j 0↔v<=now.getD j 0\/∃ h,h<k/\∃ o∈zHf n h n.h.toNat,∃ c,c<8/\j=h*8+c/\v<=now.getD (o*8+c) 0)
 |0,_=>⟨.inl,fun h=>h.elim id fun⟨c,h,_⟩=>absurd h (bH c)⟩
 | k + 1,hk=>by
  have ih:=zR3 (n:=n) hw (j:=j) (v:=v) k (by omega);rw[zKP,zSC (by omega) _ (by rw[zI4,hw]),ih];constructor
  ·rintro((h1|⟨h,h1,h2⟩)|h2)
   ·exact .inl h1
   ·exact .inr ⟨h,by omega,h2⟩
   ·exact .inr ⟨k,by omega,h2⟩
  ·rintro(h1|⟨h,h1,h2⟩)
   ·exact .inl (.inl h1)
   ·by_cases e:h=k
    ·subst e;exact .inr h2
    ·exact .inl (.inr ⟨h,by omega,h2⟩)
theorem zFW{n:Nw}(ho:NwOk n){w:LI}(hw:w.length=80){h c:Nat}(hh:h<n.h.toNat)(hc:c<8){v:Int}:v<=(zCv n w).getD (h*8+c) 0↔v<=w.getD (h*8+c) 0\/∃ o∈zHf n h n.h.toNat,v<=w.getD (o*8+c) 0:=by
 have hH:=ho.h;unfold zCv;rw[zR3 hw _ (by omega)];refine or_congr fq ⟨fun⟨h2,h3,o,h4,c2,h5,h6,h7⟩=>?_,fun⟨o,h1,h2⟩=>⟨h,hh,o,h1,c,hc,rfl,h2⟩⟩;obtain rfl:h2=h:=by omega
 obtain rfl:c2=c:=by omega
 exact⟨o,h4,h7⟩
end Go.Eng
set_option maxRecDepth 10000
set_option maxHeartbeats 4000000
namespace Go.Eng
open Go Go.Proofs
def zVm(n:Nw)(i:Nat):Bool:=decide ((zAx n).getD i 0=i) && !(n.n.getD i d0).2
def zJ3(p:Nat->Bool)(k:Nat):LI:=((range k).filter p).map fun(i:Nat)=>(i:Int)
theorem zQT{p:Nat->Bool}{k:Nat}:zJ3 p (k+1)=if p k=true then zJ3 p k++[(k:Int)] else zJ3 p k:=by
 unfold zJ3;rw[bV,cR,cJ];by_cases hn:p k=true
 ·rw[if_pos hn];simp[hn]
 ·rw[if_neg hn];simp[hn]
theorem zTU{p:Nat->Bool}{k:Nat}:(zJ3 p k).length<=k:=by
 unfold zJ3;rw[bf];exact bN (bJ _ _) (by simp)
theorem f86_1(n:Nw)(ho:NwOk n):FG 86 [nwV n] (.tup [.own 1 ((zJ3 (zVm n) n.n.length).map I),I 0]):=by
 have kN:=ho.nl;refine zAe Tryz.f86 ?_;refine zAh 3<|zAl 1<|S_a [(6,.ret (tup [(zBu n (own 2 []) (zDJ (map pr2 n.l)) (zAi n) (zAx n)).box,I 0]) [])] (ap (f139_1 n (by omega)) an)<|S_g 5<|zAc<|zAh 2<|zAD<|zAf<|zAh 1<|zAc<|zAl 2<|S_a [(0,.n n.n.length)] (ap (lnS ntV n.n) an)<|S_g 1<|zAd 0 ?_
 refine zAo (fun(i,l)=>i<=n.n.length/\l=zJ3 (zVm n) i) (fun(i,l)=>[(6,.own 1 (l.map I)),(20,I (i:Nat))]) (fun(i,_)=>n.n.length-i) ((0:Nat),([]:LI)) ⟨by omega,by simp[zJ3]⟩ fun(i,l) ⟨hi,hl⟩=>?_;have ug:l.length<=i:=by rw[hl];exact zTU
 by_cases yB:i<n.n.length
 ·have yF:=zQT (p:=zVm n) (k:=i);rw[<- hl] at yF;have jT:zVm n i=false->l=zJ3 (zVm n) (i+1):=fun h=>by rw[yF,if_neg (by rw[h];simp)]
  refine zAh 1<|zAc<|zAs ((i:Int)<(n.n.length:Int)) (by omega)<|zAf<|zAc<|zAd 1<|zAl 1<|S_a [(2,.v (agg [I (n.n.getD i d0).fst,bool (n.n.getD i d0).snd]))] (ap (zBi d0 (by omega):(map ntV n.n)[i]? = some (agg [I (n.n.getD i d0).fst,bool (n.n.getD i d0).snd])) an)<|S_g 4<|zAl 4<|S_a [(2,.ob),(1,.v (addr 4 [] 0 (14+i) none))] (ap ((by exact zAt (by omega)):decide (i<8)=true)<|ap ((zF0 (by kernel_rfl)):addr 4 [] 0 (14+i*(fun x=>x.size) Tryz.prog.types[3]) none=addr 4 [] 0 (14+i) none) an)<|S_a [(0,.cs true ([I ((zAx n).getD i 0)]))] (ap (zDe (q:=(agg (I n.h::prs n.l::sl (map ntV n.n)::sl (map zA1 n.s)::own 2 []::omap (map zFg (map pr2 n.l))::(zBa (zAi n) 8++zBa (zAx n) 8))).box) (xs:=[agg (I n.h::prs n.l::sl (map ntV n.n)::sl (map zA1 n.s)::own 2 []::omap (map zFg (map pr2 n.l))::(zBa (zAi n) 8++zBa (zAx n) 8))]) (x:=agg (I n.h::prs n.l::sl (map ntV n.n)::sl (map zA1 n.s)::own 2 []::omap (map zFg (map pr2 n.l))::(zBa (zAi n) 8++zBa (zAx n) 8))) rfl rfl (zLm (A:=I n.h::prs n.l::sl (map ntV n.n)::sl (map zA1 n.s)::own 2 []::omap (map zFg (map pr2 n.l))::zBa (zAi n) 8) (B:=[]) (F:=zAx n) (m:=8) (j:=i) (by first|rfl|exact zB8 (by kernel_rfl)|exact zCd (by kernel_rfl)|exact zD0 (by kernel_rfl) (by kernel_rfl)|exact zD2 (by kernel_rfl)|exact zEd (by kernel_rfl) (by kernel_rfl)|exact zDW (by kernel_rfl)|(simp;done)) (by omega)):zAy 4 (agg (I n.h::prs n.l::sl (map ntV n.n)::sl (map zA1 n.s)::own 2 []::omap (map zFg (map pr2 n.l))::(zBa (zAi n) 8++zBa (zAx n) 8))).box [] 0 (14+i) 1=some (true,[I ((zAx n).getD i 0)])) an)<|zAn 3<|zDh 33 ((zAx n).getD i 0=(i:Int)) (fun k0=>(S_g 4<|zDw (!(n.n.getD i d0).snd) (fun k1=>(zAb<|zAn 3<|S_a [(4,.ob),(0,.ob),(0,.yes),(2,.v (own 1 (map I (l++[(i:Int)]))))] (ap (blz (map I l))<|ap ((by exact zAQ (by simp only[bf,zzLn,zAJ]<;>omega)):((map I l).length + [I (i:Int)].length).ble zAJ=true)<|ap ((by exact zA7 (by simp<;>omega)):(0+(map I l).length).beq (map I l).length=true)<|ap ((zAK (zBH (by kernel_rfl))):own 1 (map I l++[I (i:Int)])=own 1 (map I (l++[(i:Int)]))) an)<|S_g 1<|zAb<|S_i i<|S_g 1 ?_)) (fun k1=>(zAf<|zAb<|S_i i<|S_g 1 ?_)))) (fun k0=>(S_g 4<|zAD<|zAf<|zAb<|S_i i<|S_g 1 ?_))
  ·rw[if_pos (by simp only[zVm,decide_eq_true k0,k1];rfl)] at yF;exact rnd (i+1,l++[(i:Int)]) ⟨by omega,yF.symm⟩ (by simp only;omega)
  ·exact rnd (i+1,l) ⟨by omega,jT (by simp only[zVm,decide_eq_true k0,k1];rfl)⟩ (by simp only;omega)
  ·exact rnd (i+1,l) ⟨by omega,jT (by simp only[zVm,decide_eq_false k0,di])⟩ (by simp only;omega)
 ·refine zAh 1<|zAc<|zAu ((i:Int)<(n.n.length:Int)) (by omega)<|zAq 0<|zAl 1<|S_a [(2,.yes)] (ap ((by exact zA7 (by simp<;>omega)):(beq 0 0&&(map I l).length.beq (map I l).length)=true) an)<|S_g 1<|zAk<|E_a [(1,.yes),(1,.v (own 1 (map I l)))] (ap (blz (map I l))<|ap ((zAK zAL):own 1 (take (map I l).length (drop 0 (map I l)))=own 1 (map I l)) an) (tup [own 1 (map I l),I 0]) [] ?_ rfl
  rw[hl,show i=n.n.length by omega]
def bkL(n:Nw)(cs:LP)(c:Nat)(x:Int):Nat->LI->LI
 |0,out=>out|k+1,out=>bkL n cs c x k (match(zHf n (out.getD 0 0).toNat n.h.toNat).find? fun o=>decide ((zAM n cs k).getD (o*8+c) 0=x) with|some o=>(o:Int)::out|none=>out)
abbrev zWt(S:List LI):PV := .box (.own 80 (S.map hdV))
def zSq(n:Nw)(cs:LP)(k:Nat):List LI:=(range k).map fun k=>zAM n cs k
theorem zM5{n:Nw}{cs:LP}{k:Nat}:zSq n cs (k+1)=zSq n cs k++[zAM n cs k]:=by
 simp only[zSq,bV,cJ,bO,d5]
theorem zLV{n:Nw}{cs:LP}{k j:Nat}(h:j<k):(zSq n cs k).getD j []=zAM n cs j:=by
 simp[zSq,cE,h]
theorem zX3(n:Nw)(cs:LP)(h:Int)(ho:NwOk n)(hh:0<=h/\h<n.h):zGy 169 [] [.ref (zE9 n cs),.ref (I h)] (zJY n h.toNat n.h.toNat):=by
 obtain⟨g,rfl⟩:∃ g:Nat,h=g:=⟨h.toNat,by omega⟩;exact zWq n cs g ho hh.2
theorem zLj{p:Nat->Bool}:∀ {l:LN} {j o:Nat},l[j]? = some o->p o=true->(∀ i,i<j->p (l.getD i 0)=false)->l.find? p=some o
 |[],j,o,h,_,_=>by cases h|x::l,0,o,h,hp,_=>by
  simp only[bM,ba] at h;subst h;rw[List.find?_cons,hp]
 |x::l,j+1,o,h,hp,ha=>by
  have h0:=ha 0 (by omega);simp only[List.getD_cons_zero] at h0;rw[List.find?_cons,h0];exact zLj (by simpa using h) hp fun i hi=>by simpa using ha (i+1) (by omega)
theorem zRB{p:Nat->Bool}{l:LN}(ha:∀ i,i<l.length->p (l.getD i 0)=false):l.find? p=none:=by
 rw[List.find?_eq_none];intro x hx;obtain⟨i,hi,rfl⟩:=dg hx;have:=ha i hi;rw[zAp hi] at this;simp[this]
theorem f38_1(n:Nw)(cs:LP)(h:Int)(x:Int)(k:Nat)(ho:CrOk n cs)(hh:0<=h/\h<n.h)(hx:0<=x/\x<n.n.length)(hk:k<=12)(jP:(zAM n cs k).getD (h.toNat*8+((zAi n).getD x.toNat 0).toNat) 0=x)(hm:∀ j,j<k->(zAM n cs j).getD (h.toNat*8+((zAi n).getD x.toNat 0).toNat) 0≠x):FG 38 [nwV n,prs cs,I h,I x] (.tup [.own 1 ((bkL n cs ((zAi n).getD x.toNat 0).toNat x k [h]).map I),I 0]):=by
 have hn:=ho.nw;have jk:=ho.w;have hb:=hn.h;have kN:=hn.nl;have hin:inB x 0 (n.n.length-1)=true:=by simp only[inB,bb,decide_eq_true_eq];omega
 have hih:inB h 0 (n.h-1)=true:=by simp only[inB,bb,decide_eq_true_eq];omega
 have v7:=zBL hn x.toNat (by omega);refine zAe Tryz.f38 ?_;refine zAh 4<|zAl 2<|S_a [(8,.ret (tup [zE9 n cs,I 0]) [])] (ap (f99_1 n cs (by omega)) an)<|S_g 5<|zAc<|zAd 0<|zAh 3<|zAD<|zAl 2<|S_a [(8,.ret (bool (inB h 0 (n.h-1))) [])] (ap (f109 n h (by omega)) an)<|zAn 2<|zEq 32 (!inB h 0 (n.h-1)) (fun k1=>(S_g 6<|zBD<|zAh 2<|zAk<|E_a [] an (tup [own 1 [],I 1]) [] ?_ rfl)) (fun k1=>(zAn 2<|S_a [(8,.ret (bool (inB x 0 ((n.n.length:Int)-1))) [])] (ap (f106 n x (by first|omega|(simp<;>omega))) an)<|S_g 3<|zDw (!inB x 0 ((n.n.length:Int)-1)) (fun k2=>(zAh 2<|zAk<|E_a [] an (tup [own 1 [],I 1]) [] ?_ rfl)) (fun k2=>(zAf<|zAl 4<|S_a [(0,.ob),(1,.ob),(0,.v ((I ((zAi n).getD x.toNat 0)).ref))] (ap ((by exact zAt (by omega)):decide (0<=x)=true)<|ap ((by exact zAt (by omega)):decide (x.toNat<8)=true)<|ap (zD9 (F:=zAi n) (m:=8) (j:=x.toNat) (by omega):zBO (agg (zBa (zAi n) 8)).ref (x.toNat*(fun x=>x.size) Tryz.prog.types[3]) none=some (I ((zAi n).getD x.toNat 0)).ref) an)<|S_g 3<|zAl 1<|S_a [(5,.ret (hdV (zJt n cs)) [])] (ap (f100 n cs (by omega)) an)<|S_g 3<|zAc<|zAd 1 ?_))))
 ·rw[hih] at k1;cases k1
 ·rw[hin] at k2;cases k2
 ·generalize hc:((zAi n).getD x.toNat 0)=c at *;refine zAo (fun(j,S)=>j<=k/\S=zSq n cs (j+1)) (fun(j,S)=>[(13,zWt S)]) (fun(j,_)=>k-j) ((0:Nat),[zJt n cs]) ⟨by omega,rfl⟩ fun(j,S) ⟨hj,hS⟩=>?_;have gZ:S.length=j+1:=by rw[hS];simp[zSq]
  have qu:S.getD (S.length-1) []=zAM n cs j:=by rw[gZ,hS];exact zLV (by omega)
  have hwl:(S.getD (S.length-1) []).length=80:=by rw[qu];exact zBQ j
  by_cases wv:j<k
  ·have hI:=hm j wv;rw[<- qu] at hI;have hSS:S++[zCv n (S.getD (S.length-1) [])]=zSq n cs (j+1+1):=by rw[zM5 (k:=j+1),<- hS,qu];rfl
   refine zAc<|zAc<|zAb<|S_a [(1,.v (bor 13 [(0,0)] 80 0 S.length))] (ap ((by simp):bor 13 [(0,0)] 80 0 (map hdV S).length=bor 13 [(0,0)] 80 0 S.length) an)<|S_a [(1,.v (bor 13 [(0,0)] 80 0 S.length))] (ap ((by simp):bor 13 [(0,0)] 80 0 (map hdV S).length=bor 13 [(0,0)] 80 0 S.length) an)<|zAn 1<|S_a [(1,.v (I (↑(S.length-1):Int)))] (ap ((zBY (by omega) (by omega)):I (IntKind.i64.wrap ((S.length:Int)-1))=I (↑(S.length-1):Int)) an)<|zAn 2<|S_a [(2,.ob),(1,.n (S.length-1))] (ap ((by exact zAt (by omega)):decide (S.length-1<S.length)=true)<|ap ((by simp):some (0+(S.length-1))=some (S.length-1)) an)<|S_a [(0,.ob),(1,.ob)] (ap ((by exact zAt (by omega)):decide (0<=h)=true)<|ap ((by exact zAt (by omega)):decide (h.toNat<10)=true) an)<|S_a [(0,.ob),(1,.ob)] (ap ((by exact zAt (by omega)):decide (0<=c)=true)<|ap ((by exact zAt (by omega)):decide (c.toNat<8)=true) an)<|S_a [(0,.cs true ([I ((S.getD (S.length-1) []).getD (h.toNat*8+c.toNat) 0)]))] (ap (zDe (q:=own 80 (map hdV S)) (xs:=map hdV S) (x:=agg (zBa (S.getD (S.length-1) []) 80)) (zNt (xs:=[own 80 (map hdV S)]) (x:=own 80 (map hdV S)) (y:=own 80 (map hdV S)) rfl rfl) (zBi [] (by omega)) (zFG (F:=S.getD (S.length-1) []) (m:=80) (j:=h.toNat*8+c.toNat) (by first|rfl|exact zB8 (by kernel_rfl)|exact zCd (by kernel_rfl)|exact zD0 (by kernel_rfl) (by kernel_rfl)|exact zD2 (by kernel_rfl)|exact zEd (by kernel_rfl) (by kernel_rfl)|exact zDW (by kernel_rfl)|(simp;done)) (by omega)):zAy 13 (own 80 (map hdV S)).box [(0,0)] (S.length-1) (0+h.toNat*(fun x=>x.size) Tryz.prog.types[128]+c.toNat*(fun x=>x.size) Tryz.prog.types[3]) 1=some (true,[I ((S.getD (S.length-1) []).getD (h.toNat*8+c.toNat) 0)])) an)<|S_g 2<|zCq ((S.getD (S.length-1) []).getD (h.toNat*8+c.toNat) 0=x) (by omega)<|zAf<|zAd 2<|zAc<|zAc<|zAb<|S_a [(1,.v (bor 13 [(0,0)] 80 0 S.length))] (ap ((by simp):bor 13 [(0,0)] 80 0 (map hdV S).length=bor 13 [(0,0)] 80 0 S.length) an)<|S_g 2<|zAu ((S.length:Int)>12) (by omega)<|zAf<|zAb<|S_a [(1,.v (bor 13 [(0,0)] 80 0 S.length))] (ap ((by simp):bor 13 [(0,0)] 80 0 (map hdV S).length=bor 13 [(0,0)] 80 0 S.length) an)<|zAn 1<|S_a [(1,.v (bor 13 [(0,0)] 80 0 S.length))] (ap ((by simp):bor 13 [(0,0)] 80 0 (map hdV S).length=bor 13 [(0,0)] 80 0 S.length) an)<|S_a [(1,.v (bor 13 [(0,0)] 80 0 S.length))] (ap ((by simp):bor 13 [(0,0)] 80 0 (map hdV S).length=bor 13 [(0,0)] 80 0 S.length) an)<|zAn 1<|S_a [(1,.v (I (↑(S.length-1):Int)))] (ap ((zBY (by omega) (by omega)):I (IntKind.i64.wrap ((S.length:Int)-1))=I (↑(S.length-1):Int)) an)<|S_a [(2,.ob),(1,.n (S.length-1))] (ap ((by exact zAt (by omega)):decide (S.length-1<S.length)=true)<|ap ((by simp):some (0+(S.length-1))=some (S.length-1)) an)<|S_a [(0,.cs true (zBa (S.getD (S.length-1) []) 80))] (ap (zDe (q:=own 80 (map hdV S)) (xs:=map hdV S) (x:=agg (zBa (S.getD (S.length-1) []) 80)) (zNt (xs:=[own 80 (map hdV S)]) (x:=own 80 (map hdV S)) (y:=own 80 (map hdV S)) rfl rfl) (zBi [] (by omega)):zAy 13 (own 80 (map hdV S)).box [(0,0)] (S.length-1) 0 Tryz.prog.types[130].size=some (true,zBa (S.getD (S.length-1) []) 80)) an)<|S_a [(7,.ret (hdV (zCv n (S.getD (S.length-1) []))) [])] (ap (f101 n cs (S.getD (S.length-1) []) (by omega) (by omega)) an)<|zAn 1<|S_a [(4,.ob),(0,.ob),(0,.yes),(2,.v (own 80 (map hdV (S++[zCv n (S.getD (S.length-1) [])]))))] (ap ((by exact zAQ (by simp only[bf,zzLn,zAJ]<;>omega)):(0+S.length).ble (map hdV S).length=true)<|ap ((by exact zAQ (by simp only[bf,zzLn,zAJ]<;>omega)):((map hdV S).length + [agg (zBa (zCv n (S.getD (S.length-1) [])) 80)].length).ble zAJ=true)<|ap ((by exact zA7 (by simp<;>omega)):(0+S.length).beq (map hdV S).length=true)<|ap ((zAK (zBH (by kernel_rfl))):own 80 (map hdV S++[agg (zBa (zCv n (S.getD (S.length-1) [])) 80)])=own 80 (map hdV (S++[zCv n (S.getD (S.length-1) [])]))) an)<|S_g 1 ?_
   exact rnd (j+1,S++[zCv n (S.getD (S.length-1) [])]) ⟨by omega,hSS⟩ (by simp only;omega)
  ·have e:j=k:=by omega
   subst e;rw[<- qu] at jP;refine zAc<|zAc<|zAb<|S_a [(1,.v (bor 13 [(0,0)] 80 0 S.length))] (ap ((by simp):bor 13 [(0,0)] 80 0 (map hdV S).length=bor 13 [(0,0)] 80 0 S.length) an)<|S_a [(1,.v (bor 13 [(0,0)] 80 0 S.length))] (ap ((by simp):bor 13 [(0,0)] 80 0 (map hdV S).length=bor 13 [(0,0)] 80 0 S.length) an)<|zAn 1<|S_a [(1,.v (I (↑(S.length-1):Int)))] (ap ((zBY (by omega) (by omega)):I (IntKind.i64.wrap ((S.length:Int)-1))=I (↑(S.length-1):Int)) an)<|zAn 2<|S_a [(2,.ob),(1,.n (S.length-1))] (ap ((by exact zAt (by omega)):decide (S.length-1<S.length)=true)<|ap ((by simp):some (0+(S.length-1))=some (S.length-1)) an)<|S_a [(0,.ob),(1,.ob)] (ap ((by exact zAt (by omega)):decide (0<=h)=true)<|ap ((by exact zAt (by omega)):decide (h.toNat<10)=true) an)<|S_a [(0,.ob),(1,.ob)] (ap ((by exact zAt (by omega)):decide (0<=c)=true)<|ap ((by exact zAt (by omega)):decide (c.toNat<8)=true) an)<|S_a [(0,.cs true ([I ((S.getD (S.length-1) []).getD (h.toNat*8+c.toNat) 0)]))] (ap (zDe (q:=own 80 (map hdV S)) (xs:=map hdV S) (x:=agg (zBa (S.getD (S.length-1) []) 80)) (zNt (xs:=[own 80 (map hdV S)]) (x:=own 80 (map hdV S)) (y:=own 80 (map hdV S)) rfl rfl) (zBi [] (by omega)) (zFG (F:=S.getD (S.length-1) []) (m:=80) (j:=h.toNat*8+c.toNat) (by first|rfl|exact zB8 (by kernel_rfl)|exact zCd (by kernel_rfl)|exact zD0 (by kernel_rfl) (by kernel_rfl)|exact zD2 (by kernel_rfl)|exact zEd (by kernel_rfl) (by kernel_rfl)|exact zDW (by kernel_rfl)|(simp;done)) (by omega)):zAy 13 (own 80 (map hdV S)).box [(0,0)] (S.length-1) (0+h.toNat*(fun x=>x.size) Tryz.prog.types[128]+c.toNat*(fun x=>x.size) Tryz.prog.types[3]) 1=some (true,[I ((S.getD (S.length-1) []).getD (h.toNat*8+c.toNat) 0)])) an)<|S_g 2<|zEs ((S.getD (S.length-1) []).getD (h.toNat*8+c.toNat) 0=x) (by omega)<|zAq 1<|zAh 4<|zAc<|zAc<|zAb<|S_a [(1,.v (bor 13 [(0,0)] 80 0 S.length))] (ap ((by simp):bor 13 [(0,0)] 80 0 (map hdV S).length=bor 13 [(0,0)] 80 0 S.length) an)<|zAn 1<|S_a [(1,.v (I ((S.length:Int)-2)))] (ap ((zBY rfl (by omega)):I (IntKind.i64.wrap ((S.length:Int)-2))=I ((S.length:Int)-2)) an)<|S_g 2<|zAd 3 ?_
   have hS0:∀ r:Nat,r<S.length->(S.getD r []).length=80/\S.getD r []=zAM n cs r:=fun r hr=>by
    rw[hS,zLV (by omega)];exact⟨zBQ r,rfl⟩
   have hSm:((S.length:Nat):Int)-2=(j:Int)-1:=by omega
   generalize yQ:bkL n cs c.toNat x j [h]=fin;clear hS qu hwl jP hm;refine zAo (fun((m:Int),(out:LI))=>-1<=m/\m<j/\out.length<=20-m/\0<out.length/\(0<=out.getD 0 0/\out.getD 0 0<n.h)/\bkL n cs c.toNat x (m+1).toNat out=fin) (fun(m,out)=>[(14,.box (.own 1 (out.map I))),(15,.box (I m))]) (fun(m,_)=>(m+1).toNat) (((S.length:Nat):Int)-2,[h]) ⟨by omega,by omega,by simp only[bE,b8];omega,by simp,by simpa using hh,by rw[<- yQ];congr 1;omega⟩ fun(m,out) ⟨hm1,vb,ho1,ho2,ho3,hbk⟩=>?_;by_cases LB:0<=m
   ·have hA:=zX3 n cs (out.getD 0 0) hn ho3;obtain⟨u8,jo⟩:=hS0 m.toNat (by omega);rw[show(m+1).toNat=m.toNat+1 by omega,bkL,<- jo] at hbk;refine zAc<|zAh 2<|zAs (m>=0) (by omega)<|zAf<|zAc<|zAd 4<|zX8<|zAc<|zWS (zAl 1<|S_a [(1,.v (bor 14 [(0,0)] 1 0 out.length))] (ap ((by simp):bor 14 [(0,0)] 1 0 (map I out).length=bor 14 [(0,0)] 1 0 out.length) an)<|S_a [(2,.ob)] (ap ((by exact zAt (by omega)):decide (0<out.length)=true) an)<|S_a [(0,.cs false ([I (out.getD 0 0)]))] (ap (zDe (q:=own 1 (map I out)) (xs:=map I out) (x:=I (out.getD 0 0)) (zNt (xs:=[own 1 (map I out)]) (x:=own 1 (map I out)) (y:=own 1 (map I out)) rfl rfl) (zBi (0) (by omega)):zAy 14 (own 1 (map I out)).box [(0,0)] 0 0 1=some (false,[I (out.getD 0 0)])) an)<|S_a [(7,.ret (func 169 [] [(zE9 n cs).ref,(I (out.getD 0 0)).ref]) [])] (ap (f116 n cs (out.getD 0 0)) an)<|zAR<|zAd 5 ?_)
    refine zPm (t:=86) hA (fun i (_:Unit)=>∀ r,r<i->decide ((S.getD m.toNat []).getD ((zHf n (out.getD 0 0).toNat n.h.toNat).getD r 0*8+c.toNat) 0=x)=false) (fun _=>[]) () (fun r hr=>absurd hr (bH r)) (fun i y _ hy hi=>?_) (fun _ hi=>?_)
    ·rw[cC] at hy;obtain⟨o,hmo,rfl⟩:=bl.1 hy;have qO:o<n.h.toNat:=zKl (bK hmo);refine zP5 ?_;refine zAb<|S_g 1 ?_
     have jX:(zHf n (out.getD 0 0).toNat n.h.toNat).getD i 0=o:=by rw[cE,hmo];rfl
     refine⟨rfl,by kernel_rfl,?_⟩;refine zAd 6<|zAc<|zAb<|S_a [(1,.v (bor 13 [(0,0)] 80 0 S.length))] (ap ((by simp):bor 13 [(0,0)] 80 0 (map hdV S).length=bor 13 [(0,0)] 80 0 S.length) an)<|zAn 3<|S_a [(0,.ob),(1,.ob),(1,.n m.toNat)] (ap ((by exact zAt (by omega)):decide (0<=m)=true)<|ap ((by exact zAt (by omega)):decide (m.toNat<S.length)=true)<|ap ((by simp):some (0+m.toNat)=some m.toNat) an)<|S_a [(2,.ob)] (ap ((by exact zAt (by omega)):decide (o<10)=true) an)<|S_a [(0,.ob),(1,.ob)] (ap ((by exact zAt (by omega)):decide (0<=c)=true)<|ap ((by exact zAt (by omega)):decide (c.toNat<8)=true) an)<|S_a [(0,.cs true ([I ((S.getD m.toNat []).getD (o*8+c.toNat) 0)]))] (ap (zDe (q:=own 80 (map hdV S)) (xs:=map hdV S) (x:=agg (zBa (S.getD m.toNat []) 80)) (zNt (xs:=[own 80 (map hdV S)]) (x:=own 80 (map hdV S)) (y:=own 80 (map hdV S)) rfl rfl) (zBi [] (by omega)) (zFG (F:=S.getD m.toNat []) (m:=80) (j:=o*8+c.toNat) (by first|rfl|exact zB8 (by kernel_rfl)|exact zCd (by kernel_rfl)|exact zD0 (by kernel_rfl) (by kernel_rfl)|exact zD2 (by kernel_rfl)|exact zEd (by kernel_rfl) (by kernel_rfl)|exact zDW (by kernel_rfl)|(simp;done)) (by omega)):zAy 13 (own 80 (map hdV S)).box [(0,0)] m.toNat (0+(o:Int).toNat*(fun x=>x.size) Tryz.prog.types[128]+c.toNat*(fun x=>x.size) Tryz.prog.types[3]) 1=some (true,[I ((S.getD m.toNat []).getD (o*8+c.toNat) 0)])) an)<|S_g 2<|zB2 ((S.getD m.toNat []).getD (o*8+c.toNat) 0=x) (fun k2=>(zAl 2<|S_a [(1,.v (bor 14 [(0,0)] 1 0 out.length))] (ap ((by simp):bor 14 [(0,0)] 1 0 (map I out).length=bor 14 [(0,0)] 1 0 out.length) an)<|S_a [(1,.ob),(0,.vs (map I out)),(0,.ob),(0,.ob),(0,.ob),(3,.ob)] (ap ((by exact zAQ (by simp only[bf,zzLn,zAJ]<;>omega)):(0+out.length).ble (map I out).length=true)<|ap ((by simp[zBN]):take out.length (drop 0 (map I out))=map I out)<|ap ((by exact all_map _):((map I out).all fun x=>x.plain)=true)<|ap ((by exact all_map _):((map I out).all fun y=>y.cells.length.beq ((fun x=>x.size) Tryz.prog.types[3])&&y.cells.all fun q=>q.oneCell)=true)<|ap ((by exact dc.2 (zDU _)):(zBq (map I out)).isEmpty=true)<|ap ((by exact zAQ (by simp only[bf,zzLn,zAJ]<;>omega)):([I (o:Int)].length+(map I out).length).ble zAJ=true) an)<|S_g 1<|zAq 5 ?_)) (fun k2=>(zAf ?_))
     ·rw[zLj hmo (decide_eq_true (by assumption)) hi] at hbk;clear hi hmo hA;refine⟨by kernel_rfl,?_⟩;refine zAc<|zAh 1<|zAb<|S_g 2<|zAb<|zAn 1<|S_a [(1,.v (I (m-1)))] (ap ((zBY rfl (by omega)):I (IntKind.i64.wrap (m-1))=I (m-1)) an)<|S_g 1 ?_
      exact rnd (m-1,(o:Int)::out) ⟨by omega,by omega,by simp only[bE];omega,by simp,by simp only[List.getD_cons_zero];omega,by rw[show(m-1+1).toNat=m.toNat by omega];exact hbk⟩ (by simp only;omega)
     ·refine⟨by kernel_rfl,(),fun r hr=>?_,by kernel_rfl⟩;rcases bC.1 hr with h|rfl
      ·exact hi r h
      ·rw[jX];exact decide_eq_false (by assumption)
    ·rw[zRB (by simpa using hi)] at hbk;clear hi hA;show W _ _ _ _ _ _ _ _
     refine zAc<|zAh 1<|zAb<|S_g 2<|zAb<|zAn 1<|S_a [(1,.v (I (m-1)))] (ap ((zBY rfl (by omega)):I (IntKind.i64.wrap (m-1))=I (m-1)) an)<|S_g 1 ?_
     exact rnd (m-1,out) ⟨by omega,by omega,by omega,ho2,ho3,by rw[show(m-1+1).toNat=m.toNat by omega];exact hbk⟩ (by simp only;omega)
   ·have hm3:(m+1).toNat=0:=by omega
    rw[hm3,bkL] at hbk;rw[<- hbk];refine zAc<|zAh 2<|zAu (m>=0) (by omega)<|zAq 3<|zAc<|zAb<|S_a [(1,.v (bor 14 [(0,0)] 1 0 out.length))] (ap ((by simp):bor 14 [(0,0)] 1 0 (map I out).length=bor 14 [(0,0)] 1 0 out.length) an)<|S_a [(2,.yes)] (ap ((by exact zA7 (by simp<;>omega)):(beq 0 0&&out.length.beq (map I out).length)=true) an)<|S_g 1<|zAk<|E_z [(1,.yes),(1,.v (own 1 (map I out)))] (ap (blz (map I out))<|ap ((zAK zAL):own 1 (take (map I out).length (drop 0 (map I out)))=own 1 (map I out)) an)
end Go.Eng
namespace Go.Eng
open Go Go.Proofs
end Go.Eng
