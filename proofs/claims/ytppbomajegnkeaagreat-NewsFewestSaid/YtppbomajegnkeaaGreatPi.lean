/- The statement NewsFewest jQ for all arguments: further cries that are returned leave none and are as few as can be, and the gaps that are apart, or the errors, are as specified; arguments are not modified. -/
import Derived.Test.YtppbomajegnkeaaGreatPh
import Derived.Test.YtppbomajegnkeaaGreatPd
import Derived.Test.YtppbomajegnkeaaGreatPg
import Derived.Test.YtppbomajegnkeaaGreatPe
set_option linter.unusedVariables false
set_option linter.unusedSimpArgs false
set_option linter.unusedSectionVars false
set_option maxRecDepth 10000
set_option maxHeartbeats 4000000
open Nat (beq ble blt)
open List (map replicate take drop range length filter)
open Go.Eng.PV (own agg addr func sl bor tup omap bad bool int)
namespace Go.Eng
open Go Go.Proofs
theorem f172(l:LP)(c:Int×Int)(hl:l.length<1000000):FG 172 [prs l,prV c] (.own 2 ((l++[c]).map prV)):=by
 refine zAe Tryz.f172 ?_;refine zAh 2<|zAl 2<|S_a [(0,.ob),(0,.ob),(0,.ob),(3,.ob)] (ap ((by exact all_map _):((map prV l).all fun x=>x.plain)=true)<|ap ((by exact all_map _):((map prV l).all fun y=>y.cells.length.beq ((fun x=>x.size) Tryz.prog.types[73])&&y.cells.all fun q=>q.oneCell)=true)<|ap ((by exact dc.2 (zDU _)):(zBq (map prV l)).isEmpty=true)<|ap ((by exact zAQ (by simp only[bf,zzLn,zAJ]<;>omega)):(0+(map prV l).length).ble zAJ=true) an)<|zAn 2<|S_a [(4,.ob),(0,.ob),(0,.yes),(2,.v (own 2 (map prV (l++[c]))))] (ap (blz ([]++map prV l))<|ap ((by exact zAQ (by simp only[bf,zzLn,zAJ]<;>omega)):(([]++map prV l).length + [prV c].length).ble zAJ=true)<|ap ((by exact zA7 (by simp<;>omega)):(0+([]++map prV l).length).beq ([]++map prV l).length=true)<|ap ((zAK (zBH (by kernel_rfl))):own 2 ([]++map prV l++[prV c])=own 2 (map prV (l++[c]))) an)<|S_g 1<|zAk<|E_z [(1,.yes),(1,.v (own 2 (map prV (l++[c]))))] (ap (blz (map prV (l++[c])))<|ap ((zAK zAL):own 2 (take (map prV (l++[c])).length (drop 0 (map prV (l++[c]))))=own 2 (map prV (l++[c]))) an)
theorem f120(n:Nw)(cs:LP)(e:Int)(c:Int×Int)(l:LP)(ho:CrW n cs)(hl:cs.length<=16)(he:0<=e/\e<=1000)(ug:l.length<=1000)(hm:∀ g∈l,zYu n g)(hc:(0<=c.1/\c.1<n.n.length)/\(0<=c.2/\c.2<n.s.length)):FG 120 [nwV n,prs cs,I e,prV c,prs l] (.own 2 ((zD6 n (zAM n (cs++[c]) e.toNat) l).map prV)):=by
 have uf:=zLO ho (by omega) hc;have hn:=ho.nw;rw[<- zY0 uf e.toNat hm];have kM:∃ w,RelK n (zDz n (cs++[c]) e.toNat) w:=⟨_,zEQ uf _⟩;have kd:(zDz n (cs++[c]) e.toNat).length=n.h.toNat:=by obtain⟨_,h⟩:=kM;exact h.len
 have hAf:=f95 n (cs++[c]) e uf he;generalize hK:zDz n (cs++[c]) e.toNat=K at *;clear hK;refine zAe Tryz.f120 ?_;refine zAh 3<|zAl 3<|S_a [(8,.ret (own 2 (map prV (cs++[c]))) [])] (ap (f172 cs c (by omega)) an)<|zAn 1<|S_a [(5,.ob),(0,.v (prs (cs++[c]))),(4,.ret (own 1 (map lsB K)) []),(1,.yes)] (ap (blz (map prV (cs++[c])))<|ap (frT prV (cs++[c]))<|ap hAf<|ap (?_:(own 1 (map lsB K)).free=true) an)<|S_g 1<|zAh 1<|zAc<|zAh 1<|zAd 0 ?_
 ·exact zEW _
 refine zAo (fun(i,q)=>i<=l.length/\q=(l.take i).filter (mdK n K)) (fun((i:Nat),(q:LP))=>[(12,.own 2 (q.map prV)),(13,I (i:Nat))]) (fun(i,_)=>l.length-i) ((0:Nat),([]:LP)) ⟨bG _,rfl⟩ fun(i,q) ⟨hi,hq⟩=>?_;have kH:q.length<=i:=by rw[hq];exact bN (bJ _ _) (by rw[bZ];omega)
 by_cases yB:i<l.length
 ·have yF:=zFM (mdK n K) l i d0 yB;rw[<- hq] at yF;obtain⟨kA,wF⟩:=zBt (d:=d0) hm i yB;have hH:FG 113 [nwV n,knV K,I (l.getD i d0).1,I (l.getD i d0).2] (.bool (zMM n K (l.getD i d0).1.toNat (l.getD i d0).2.toNat)):=by
   have:=f113 n K (l.getD i d0).1.toNat (l.getD i d0).2.toNat hn kM (by omega) (by omega);rwa[cT kA.1,cT wF.1] at this
  clear hq hm hAf;have hp:∀ b:Bool,(!zMM n K (l.getD i d0).1.toNat (l.getD i d0).2.toNat)=b->mdK n K (l.getD i d0)=b:=fun b h=>h;refine zAc<|zAl 2<|S_a [(0,.n l.length)] (ap (lnS prV l) an)<|S_g 1<|zAs ((i:Int)<(l.length:Int)) (by omega)<|zAf<|zAc<|zAd 1<|zAl 4<|S_a [(2,.v (prV (l.getD i d0)))] (ap (zBi d0 (by omega):(map prV l)[i]? = some (prV (l.getD i d0))) an)<|zAn 4<|S_a [(2,.v (prV (l.getD i d0)))] (ap (zBi d0 (by omega):(map prV l)[i]? = some (prV (l.getD i d0))) an)<|zAn 2<|S_a [(5,.ob),(0,.v (sl (map bls K))),(6,.ret (bool (zMM n K (l.getD i d0).fst.toNat (l.getD i d0).snd.toNat)) [])] (ap (blz (map lsB K))<|ap (frC lsB bls K)<|ap hH an)<|S_g 1<|zDw (!zMM n K (l.getD i d0).fst.toNat (l.getD i d0).snd.toNat) (fun k0=>(zAb<|zAn 3<|S_a [(2,.v (prV (l.getD i d0)))] (ap (zBi d0 (by omega):(map prV l)[i]? = some (prV (l.getD i d0))) an)<|zAn 2<|S_a [(4,.ob),(0,.ob),(0,.yes),(2,.v (own 2 (map prV (q++[l.getD i d0]))))] (ap (blz (map prV q))<|ap ((by exact zAQ (by simp only[bf,zzLn,zAJ]<;>omega)):((map prV q).length + [prV (l.getD i d0)].length).ble zAJ=true)<|ap ((by exact zA7 (by simp<;>omega)):(0+(map prV q).length).beq (map prV q).length=true)<|ap ((zAK (zBH (by kernel_rfl))):own 2 (map prV q++[prV (l.getD i d0)])=own 2 (map prV (q++[l.getD i d0]))) an)<|S_g 1<|zAb<|zAn 1<|S_i i<|S_g 1 ?_)) (fun k0=>(zAf<|zAb<|zAn 1<|S_i i<|S_g 1 ?_))
  ·rw[if_pos (hp _ k0)] at yF;exact rnd (i+1,q++[l.getD i d0]) ⟨by omega,yF.symm⟩ (by simp only;omega)
  ·rw[if_neg (by rw[hp _ k0];simp)] at yF;exact rnd (i+1,q) ⟨by omega,yF.symm⟩ (by simp only;omega)
 ·rw[bp (by omega)] at hq;rw[<- hq];clear hq hm hAf;refine zAc<|zAl 2<|S_a [(0,.n l.length)] (ap (lnS prV l) an)<|S_g 1<|zAu ((i:Int)<(l.length:Int)) (by omega)<|zAq 0<|zAl 1<|S_a [(2,.yes)] (ap ((by exact zA7 (by simp<;>omega)):(beq 0 0&&(map prV q).length.beq (map prV q).length)=true) an)<|zAR<|zAk<|E_z [(1,.yes),(1,.v (own 2 (map prV q)))] (ap (blz (map prV q))<|ap ((zAK zAL):own 2 (take (map prV q).length (drop 0 (map prV q)))=own 2 (map prV q)) an)
theorem f126(l:LP)(g:Int×Int)(hl:l.length<1000000):FG 126 [prs l,prV g] (.bool (has l g)):=by
 refine zAe Tryz.f126 ?_;refine zAh 2<|zAc<|zAh 1<|zAd 0 ?_
 refine zAo (fun i=>i<=l.length/\∀ j,j<i->decide (l.getD j d0=g)=false) (fun(i:Nat)=>[(5,I (i:Nat))]) (fun i=>l.length-i) (0:Nat) ⟨bG _,fun j hj=>absurd hj (bH j)⟩ fun i ⟨hi,ha⟩=>?_;by_cases yB:i<l.length
 ·have ya:=zGI ha;have vC:decide (l.getD i d0=g)=true->has l g=true:=fun h=>by
   rw[zAp yB] at h;exact bP.2 ⟨_,cu yB,decide_eq_true (of_decide_eq_true h).symm⟩
  clear ha;refine zAc<|zAl 2<|S_a [(0,.n l.length)] (ap (lnS prV l) an)<|S_g 1<|zAs ((i:Int)<(l.length:Int)) (by omega)<|zAf<|zAc<|zAd 1<|zAl 2<|S_a [(2,.v (prV (l.getD i d0)))] (ap (zBi d0 (by omega):(map prV l)[i]? = some (prV (l.getD i d0))) an)<|zAn 2<|S_a [(0,.v (bool (decide ((l.getD i d0).fst=g.fst)&&decide ((l.getD i d0).snd=g.snd))))] (ap (zSN:zHJ Tryz.prog BinOp.eql 49 (prV (l.getD i d0)) (prV g)=some (bool (decide ((l.getD i d0).fst=g.fst)&&decide ((l.getD i d0).snd=g.snd)))) an)<|zAR<|zDw (decide ((l.getD i d0).fst=g.fst)&&decide ((l.getD i d0).snd=g.snd)) (fun k0=>(zAh 1<|zAk<|E_a [] an (bool true) [] ?_ rfl)) (fun k0=>(zAf<|zAb<|zAn 1<|S_i i<|S_g 1 ?_))
  ·rw[zNj] at k0;rw[vC k0]
  ·rw[zNj] at k0;exact rnd (i+1) ⟨by omega,ya k0⟩ (by omega)
 ·have hx:has l g=false:=by
   refine cD.2 fun y hy=>?_;obtain⟨j,hj,rfl⟩:=dg hy;have:=ha j (by omega);rw[zAp hj,decide_eq_false_iff_not] at this;rw[decide_eq_true_eq];exact fun h=>this h.symm
  rw[hx];clear ha;refine zAc<|zAl 2<|S_a [(0,.n l.length)] (ap (lnS prV l) an)<|S_g 1<|zAu ((i:Int)<(l.length:Int)) (by omega)<|zAq 0<|zAh 1<|zAk E_0
theorem f74(n:Nw)(cs:LP)(e:Int)(st:LI)(hs:Small n)(hl:cs.length<1000000)(yD:st.length<1000000):FG 74 [nwV n,prs cs,I e,zA1 st] (I (zBr n cs e st)):=by
 have h3:=hs.hs;refine zAe Tryz.f74 ?_;by_cases he:zCf n cs e=0
 ·have hx:zBr n cs e st=if (!st.all fun x=>inB x 0 (n.s.length-1))=true then 1 else if st.Nodup then 0 else 5:=by simp only[zBr,he,if_true]
  rw[hx];clear hx;refine zAh 2<|zAc<|zAl 3<|S_a [(10,.ret (I (zCf n cs e)) [])] (ap (f93 n cs e (by omega) (by omega)) an)<|S_g 1<|zAh 2<|zEs (zCf n cs e=0) (by omega)<|zAf<|zAc<|zAh 1<|zAd 0 ?_
  refine zAo (fun i=>i<=st.length/\∀ j,j<i->inB (st.getD j 0) 0 (n.s.length-1)=true) (fun(i:Nat)=>[(10,I (i:Nat))]) (fun i=>st.length-i) (0:Nat) ⟨bG _,fun j hj=>absurd hj (bH j)⟩ fun i ⟨hi,ha⟩=>?_;by_cases yB:i<st.length
  ·have ya:=zGI ha;clear ha;refine zAc<|zAl 2<|S_a [(0,.n st.length)] (ap (lnS I st) an)<|S_g 1<|zAs ((i:Int)<(st.length:Int)) (by omega)<|zAf<|zAc<|zAd 1<|zAl 2<|S_a [(2,.v (I (st.getD i 0)))] (ap (zBi (0) (by omega):(map I st)[i]? = some (I (st.getD i 0))) an)<|zAn 3<|S_a [(0,.n n.s.length)] (ap (lnS zA1 n.s) an)<|S_a [(1,.v (I ((n.s.length:Int)-1)))] (ap ((zBY rfl (by omega)):I (IntKind.i64.wrap ((n.s.length:Int)-1))=I ((n.s.length:Int)-1)) an)<|S_a [(10,.ret (bool !inB (st.getD i 0) 0 ((n.s.length:Int)-1)) [])] (ap (f111 (st.getD i 0) (0) ((n.s.length:Int)-1)) an)<|zAR<|zDw (!inB (st.getD i 0) 0 ((n.s.length:Int)-1)) (fun k0=>(zAh 1<|zAk<|E_a [] an (I 1) [] ?_ rfl)) (fun k0=>(zAf<|zAb<|zAn 1<|S_i i<|S_g 1 ?_))
   ·rw[zIB yB (ntt k0)];rfl
   ·exact rnd (i+1) ⟨by omega,ya (ntf k0)⟩ (by omega)
  have hA:(st.all fun x=>inB x 0 (n.s.length-1))=true:=zJ8 (d:=0) fun i hi=>ha i (by omega);rw[hA];clear ha;refine zAc<|zAl 2<|S_a [(0,.n st.length)] (ap (lnS I st) an)<|S_g 1<|zAu ((i:Int)<(st.length:Int)) (by omega)<|zAq 0<|zAc<|zAh 1<|zAd 2 ?_
  refine zAo (fun i=>i<=st.length/\∀ j,j<i->∀ k,k<j->st.getD j 0≠st.getD k 0) (fun(i:Nat)=>[(11,I (i:Nat))]) (fun i=>st.length-i) (0:Nat) ⟨bG _,fun j hj=>absurd hj (bH j)⟩ fun i ⟨hi,ha⟩=>?_;by_cases yB:i<st.length
  ·have ya:=zGI ha;clear ha;refine zAc<|zAl 2<|S_a [(0,.n st.length)] (ap (lnS I st) an)<|S_g 1<|zAs ((i:Int)<(st.length:Int)) (by omega)<|zAf<|zAc<|zAd 3<|zAh 1<|zAd 4 ?_
   refine zAo (fun k=>k<=i/\∀ j,j<k->st.getD i 0≠st.getD j 0) (fun(k:Nat)=>[(12,I (k:Nat))]) (fun k=>i-k) (0:Nat) ⟨bG _,fun j hj=>absurd hj (bH j)⟩ fun k ⟨hk,hb⟩=>?_;by_cases je:k<i
   ·have jg:=zGI hb;clear hb ya;refine zAc<|zAh 3<|zAs ((k:Int)<(i:Int)) (by omega)<|zAf<|zAc<|zAd 5<|zAl 2<|S_a [(2,.v (I (st.getD i 0)))] (ap (zBi (0) (by omega):(map I st)[i]? = some (I (st.getD i 0))) an)<|zAn 3<|S_a [(2,.v (I (st.getD k 0)))] (ap (zBi (0) (by omega):(map I st)[k]? = some (I (st.getD k 0))) an)<|S_g 2<|zB2 (st.getD i 0=st.getD k 0) (fun k1=>(zAh 1<|zAk<|E_a [] an (I 5) [] ?_ rfl)) (fun k1=>(zAf<|zAb<|zAn 1<|S_i k<|S_g 1 ?_))
    ·rw[if_neg (by simp),if_neg (zSy yB je k1)]
    ·exact rnd (k+1) ⟨by omega,jg k1⟩ (by omega)
   ·have yS:=ya fun j hj=>hb j (by omega);clear hb ya;refine zAc<|zAh 3<|zAu ((k:Int)<(i:Int)) (by omega)<|zAq 4<|zAb<|zAn 1<|S_i i<|S_g 1 ?_
    exact rnd (i+1) ⟨by omega,yS⟩ (by omega)
  have hN:st.Nodup:=zP1 fun i hi=>ha i (by omega);clear ha;refine zAc<|zAl 2<|S_a [(0,.n st.length)] (ap (lnS I st) an)<|S_g 1<|zAu ((i:Int)<(st.length:Int)) (by omega)<|zAq 2<|zAh 1<|zAk<|E_a [] an (I 0) [] (by simp[*]) rfl
 ·refine zAh 2<|zAc<|zAl 3<|S_a [(10,.ret (I (zCf n cs e)) [])] (ap (f93 n cs e (by omega) (by omega)) an)<|S_g 1<|zAh 2<|zCq (zCf n cs e=0) (by omega)<|zAh 2<|zAk<|E_a [] an (I (zCf n cs e)) [] ?_ rfl
  simp only[zBr,he,if_false]
abbrev gpO(l:LP):PV := .own 2 (l.map prV)
instance:FrzOf gpO prs:=⟨fun l=>by simp only[zAY,zAB (g:=prV) (g':=prV) l]⟩
theorem zMa{n:Nw}{cs:LP}{e:Nat}{G:LP}{st:LI}:∀ i,(zM1 n cs e G st i).length=i*st.length
 |0=>by simp[zM1]|i+1=>by
  have:zM1 n cs e G st (i+1)=zM1 n cs e G st i++st.map fun s=>zD6 n (zAM n (cs++[((i:Int),s)]) e) G:=by simp[zM1,bV,dD]
  rw[this,bt,zMa i,bf,cY]
theorem f125(n:Nw)(cs:LP)(e:Int)(st:LI)(G:LP)(ho:OffOk n cs e st)(yD:st.length<=1000)(hG:G.length<=80)(js:∀ g∈G,zYu n g):FG 125 [nwV n,prs cs,I e,zA1 st,prs G] (.own 1 ((zM1 n cs e.toNat G st n.n.length).map gpO)):=by
 have yX:=ho.ev;have j2:=yX.cr;have jk:=j2.w;have hn:=j2.nw;have jh:=j2.len;have he:=yX.ev;have kN:=hn.nl;refine zAe Tryz.f125 ?_;refine zAh 2<|zAh 1<|zAc<|zAh 1<|zAd 0 ?_
 refine zAo (fun(i,L)=>i<=n.n.length/\L=zM1 n cs e.toNat G st i) (fun((i:Nat),(L:List LP))=>[(11,.own 1 (L.map gpO)),(12,I (i:Nat))]) (fun(i,_)=>n.n.length-i) ((0:Nat),([]:List LP)) ⟨bG _,rfl⟩ fun(i,L) ⟨hi,hL⟩=>?_;have hLl:L.length<=8000:=by
  rw[hL,zMa];have:i*st.length<=8*1000:=fo (by omega) yD;omega
 by_cases yB:i<n.n.length
 ·have yS:zM1 n cs e.toNat G st (i+1)=L++st.map fun s=>zD6 n (zAM n (cs++[((i:Int),s)]) e.toNat) G:=by rw[hL];simp[zM1,bV,dD]
  clear hL;refine zAc<|zAl 3<|S_a [(0,.n n.n.length)] (ap (lnS ntV n.n) an)<|S_g 1<|zAs ((i:Int)<(n.n.length:Int)) (by omega)<|zAf<|zAc<|zAd 1<|zAh 1<|zAd 2 ?_
  refine zAo (fun(j,M)=>j<=st.length/\M=L++(st.take j).map fun s=>zD6 n (zAM n (cs++[((i:Int),s)]) e.toNat) G) (fun((j:Nat),(M:List LP))=>[(11,.own 1 (M.map gpO)),(13,I (j:Nat))]) (fun(j,_)=>st.length-j) ((0:Nat),L) ⟨bG _,by simp⟩ fun(j,M) ⟨hj,hM⟩=>?_;have hMl:M.length<=9000:=by rw[hM,bt,bf,bZ];omega
  by_cases jN:j<st.length
  ·have yV:=zBt (d:=(0:Int)) ho.rng j jN;have kY:(0<=(((i:Int),st.getD j 0):Int×Int).1/\(((i:Int),st.getD j 0):Int×Int).1<n.n.length)/\(0<=(((i:Int),st.getD j 0):Int×Int).2/\(((i:Int),st.getD j 0):Int×Int).2<n.s.length):=by simp only;omega
   have hmc:=f120 n cs e ((i:Int),st.getD j 0) G jk jh (by omega) (by omega) js kY;have yF:M++[zD6 n (zAM n (cs++[((i:Int),st.getD j 0)]) e.toNat) G]=L++(st.take (j+1)).map fun s=>zD6 n (zAM n (cs++[((i:Int),s)]) e.toNat) G:=by
    rw[hM,zBs (d:=0) jN,cJ,cK];rfl
   clear hM yS js;refine zAc<|zAl 2<|S_a [(0,.n st.length)] (ap (lnS I st) an)<|S_g 1<|zAs ((j:Int)<(st.length:Int)) (by omega)<|zAf<|zAc<|zAd 3<|zAb<|zAn 7<|S_a [(2,.v (I (st.getD j 0)))] (ap (zBi (0) (by omega):(map I st)[j]? = some (I (st.getD j 0))) an)<|zAn 3<|S_a [(14,.ret (own 2 (map prV (zD6 n (zAM n (cs++[((i:Int),st.getD j 0)]) e.toNat) G))) [])] (ap hmc an)<|zAn 1<|S_a [(4,.ob),(0,.ob),(0,.yes),(2,.v (own 1 (map gpO (M++[zD6 n (zAM n (cs++[((i:Int),st.getD j 0)]) e.toNat) G]))))] (ap (blz (map gpO M))<|ap ((by exact zAQ (by simp only[bf,zzLn,zAJ]<;>omega)):((map gpO M).length + [own 2 (map prV (zD6 n (zAM n (cs++[((i:Int),st.getD j 0)]) e.toNat) G))].length).ble zAJ=true)<|ap ((by exact zA7 (by simp<;>omega)):(0+(map gpO M).length).beq (map gpO M).length=true)<|ap ((zAK (zBH (by kernel_rfl))):own 1 (map gpO M++[own 2 (map prV (zD6 n (zAM n (cs++[((i:Int),st.getD j 0)]) e.toNat) G))])=own 1 (map gpO (M++[zD6 n (zAM n (cs++[((i:Int),st.getD j 0)]) e.toNat) G]))) an)<|S_g 1<|zAb<|zAn 1<|S_i j<|S_g 1 ?_
   exact rnd (j+1,M++[zD6 n (zAM n (cs++[((i:Int),st.getD j 0)]) e.toNat) G]) ⟨by omega,yF⟩ (by simp only;omega)
  ·rw[bp (by omega)] at hM;rw[<- hM] at yS;clear hM js;refine zAc<|zAl 2<|S_a [(0,.n st.length)] (ap (lnS I st) an)<|S_g 1<|zAu ((j:Int)<(st.length:Int)) (by omega)<|zAq 2<|zAb<|zAn 1<|S_i i<|S_g 1 ?_
   exact rnd (i+1,M) ⟨by omega,yS.symm⟩ (by simp only;omega)
 ·rw[show i=n.n.length by omega] at hL;rw[<- hL];clear hL js;refine zAc<|zAl 3<|S_a [(0,.n n.n.length)] (ap (lnS ntV n.n) an)<|S_g 1<|zAu ((i:Int)<(n.n.length:Int)) (by omega)<|zAq 0<|zAl 1<|S_a [(2,.yes)] (ap ((by exact zA7 (by simp<;>omega)):(beq 0 0&&(map gpO L).length.beq (map gpO L).length)=true) an)<|zAR<|zAk<|E_z [(1,.yes),(1,.v (own 1 (map gpO L)))] (ap (blz (map gpO L))<|ap ((zAK zAL):own 1 (take (map gpO L).length (drop 0 (map gpO L)))=own 1 (map gpO L)) an)
end Go.Eng
set_option maxRecDepth 10000
set_option maxHeartbeats 4000000
namespace Go.Eng
open Go Go.Proofs
def lfV(n:Nw)(cs:LP)(e:Nat)(st:LI)(i:Nat):Int:=lsN n cs e i st (2 ^ st.length)
def lfN(n:Nw)(cs:LP)(e:Nat)(st:LI)(k:Nat):Int:=(range k).foldl (fun(a:Int) (i:Nat)=>if zE7 n i>=0 then a else a+lfV n cs e st i) 0
def zVk(n:Nw)(cs:LP)(e:Nat)(st:LI)(k:Nat):Bool:=(range k).all fun(i:Nat)=>decide (zE7 n i>=0)||decide (0<=lfV n cs e st i)
theorem zPW{n:Nw}{cs:LP}{e:Nat}{st:LI}{k:Nat}:lfN n cs e st (k+1)=if zE7 n k>=0 then lfN n cs e st k else lfN n cs e st k+lfV n cs e st k:=by
 simp only[lfN,bV,cv,bY,cB]
theorem zWv{n:Nw}{cs:LP}{e:Nat}{la:Int}{st:LI}:∀ k,-1<=lsN n cs e la st k/\lsN n cs e la st k<=st.length
 |0=>by simp[lsN]|k+1=>by
  have ih:=zWv (n:=n) (cs:=cs) (e:=e) (la:=la) (st:=st) k;have h1:=zI1 (st:=st) (set:=k) st.length;rw[zMj];unfold lsF;split
  ·exact ih
  split
  ·exact ih
  ·omega
theorem zYC{n:Nw}{cs:LP}{e:Nat}{st:LI}{k i:Nat}(hi:i<k)(hb:¬ zE7 n i>=0)(h:lfV n cs e st i<0):zVk n cs e st k=false:=by
 simp only[zVk,dQ];refine⟨i,bx.2 hi,?_⟩;rw[bS,decide_eq_true_eq,decide_eq_true_eq];rintro(h1|h1)
 ·exact hb h1
 ·omega
theorem f71_1(n:Nw)(cs:LP)(e:Int)(st:LI)(ho:OffOk n cs e st)(vE:st.length<=6):FG 71 [nwV n,prs cs,I e,zA1 st] (.tup [I (if zVk n cs e.toNat st n.n.length=true then lfN n cs e.toNat st n.n.length else 0),I (if zVk n cs e.toNat st n.n.length=true then 0 else 6)]):=by
 have yX:=ho.ev;have j2:=yX.cr;have jk:=j2.w;have hn:=j2.nw;have jl:=hn.small;have jh:=j2.len;have he:=yX.ev;have kN:=hn.nl;have herr:=ho.err;have vD:∀ i:Nat,i<n.n.length->FG 144 [nwV n,prs cs,I e,zA1 st,I i] (I (lfV n cs e.toNat st i)):=fun i hi=>f144 n cs e i st jk jh he (by omega) vE ho.rng;have hbd:∀ i:Nat,-1<=lfV n cs e.toNat st i/\lfV n cs e.toNat st i<=6:=fun i=>by
  have:=zWv (n:=n) (cs:=cs) (e:=e.toNat) (la:=i) (st:=st) (2 ^ st.length);unfold lfV;omega
 have v7:∀ i:Nat,i<n.n.length->¬ zE7 n i>=0->lfV n cs e.toNat st i<0->zVk n cs e.toNat st n.n.length=false:=fun i hi hb h=>zYC hi hb h;refine zAe Tryz.f71 ?_;refine zAh 3<|zAc<|zAl 4<|S_a [(12,.ret (I (zBr n cs e st)) [])] (ap (f74 n cs e st (by omega) (by omega) (by omega)) an)<|S_g 1<|zAh 2<|zEs (zBr n cs e st=0) (by omega)<|zAf<|zAh 1<|zAc<|zAh 1<|zAd 0 ?_
 refine zAo (fun(i,a)=>i<=n.n.length/\a=lfN n cs e.toNat st i/\(0<=a/\a<=i*6)/\∀ j:Nat,j<i->zE7 n j>=0\/0<=lfV n cs e.toNat st j) (fun((i:Nat),(a:Int))=>[(11,I a),(12,I (i:Nat))]) (fun(i,_)=>n.n.length-i) ((0:Nat),(0:Int)) ⟨bG _,rfl,by omega,fun j hj=>absurd hj (bH j)⟩ fun(i,a) ⟨hi,hq,hab,ha⟩=>?_;by_cases yB:i<n.n.length
 ·have yF:=zPW (n:=n) (cs:=cs) (e:=e.toNat) (st:=st) (k:=i);rw[<- hq] at yF;have hli:=vD i yB;have u5:=hbd i;have wC:=v7 i yB;have ya:(zE7 n i>=0\/0<=lfV n cs e.toNat st i)->∀ j:Nat,j<i+1->zE7 n j>=0\/0<=lfV n cs e.toNat st j:=fun h j hj=>by
   rcases bC.1 hj with h2|rfl
   ·exact ha j h2
   ·exact h
  clear vD hbd v7 ha hq;generalize lfV n cs e.toNat st i=V at *;by_cases hb:zE7 n i>=0
  ·rw[if_pos hb] at yF;have jg:=ya (.inl hb);clear ya wC;refine zAc<|zAl 3<|S_a [(0,.n n.n.length)] (ap (lnS ntV n.n) an)<|S_g 1<|zAs ((i:Int)<(n.n.length:Int)) (by omega)<|zAf<|zAc<|zAd 1<|zAc<|zAl 2<|S_a [(8,.ret (I (zE7 n (i:Int))) [])] (ap (f143 n ((i:Int)) (by first|omega|(simp<;>omega))) an)<|S_g 1<|zAs (zE7 n (i:Int)>=0) (by omega)<|zAq 1<|zAb<|zAn 1<|S_i i<|S_g 1 ?_
   exact rnd (i+1,a) ⟨by omega,yF.symm,by omega,jg⟩ (by simp only;omega)
  ·rw[if_neg hb] at yF;by_cases hv:V<0
   ·have jT:=wC hb hv;clear ya wC;rw[jT];refine zAc<|zAl 3<|S_a [(0,.n n.n.length)] (ap (lnS ntV n.n) an)<|S_g 1<|zAs ((i:Int)<(n.n.length:Int)) (by omega)<|zAf<|zAc<|zAd 1<|zAc<|zAl 2<|S_a [(8,.ret (I (zE7 n (i:Int))) [])] (ap (f143 n ((i:Int)) (by first|omega|(simp<;>omega))) an)<|S_g 1<|zAu (zE7 n (i:Int)>=0) (by omega)<|zAf<|zAl 5<|S_a [(14,.ret (I V) [])] (ap hli an)<|S_g 1<|zAc<|zAh 2<|zAs (V<0) (by omega)<|zAh 2<|zAk E_0
   ·have jg:=ya (.inr (by omega));clear ya wC;refine zAc<|zAl 3<|S_a [(0,.n n.n.length)] (ap (lnS ntV n.n) an)<|S_g 1<|zAs ((i:Int)<(n.n.length:Int)) (by omega)<|zAf<|zAc<|zAd 1<|zAc<|zAl 2<|S_a [(8,.ret (I (zE7 n (i:Int))) [])] (ap (f143 n ((i:Int)) (by first|omega|(simp<;>omega))) an)<|S_g 1<|zAu (zE7 n (i:Int)>=0) (by omega)<|zAf<|zAl 5<|S_a [(14,.ret (I V) [])] (ap hli an)<|S_g 1<|zAc<|zAh 2<|zAu (V<0) (by omega)<|zAf<|zAb<|zAn 2<|S_a [(1,.v (I (a+V)))] (ap ((zBY rfl (by omega)):I (IntKind.i64.wrap (a+V))=I (a+V)) an)<|S_g 1<|zAb<|zAn 1<|S_i i<|S_g 1 ?_
    exact rnd (i+1,a+V) ⟨by omega,yF.symm,by omega,jg⟩ (by simp only;omega)
 ·have e1:i=n.n.length:=by omega
  subst e1;have yE:zVk n cs e.toNat st n.n.length=true:=by
   simp only[zVk,bj,bx,bS,decide_eq_true_eq];exact ha
  rw[yE,if_pos rfl,if_pos rfl,<- hq];clear vD hbd v7 ha hq;refine zAc<|zAl 3<|S_a [(0,.n n.n.length)] (ap (lnS ntV n.n) an)<|S_g 1<|zAu ((n.n.length:Int)<(n.n.length:Int)) (by omega)<|zAq 0<|zAh 3<|zAk E_0
end Go.Eng
set_option maxHeartbeats 1000000
namespace Go.Eng
open Go
theorem zQf{n:Nw}{cs:LP}{e:Nat}{la:Int}{st:LI}:∀ k,
  (lsN n cs e la st k = -1\/∃ s,s<k/\zOT n cs e la (zIC st s st.length)=false/\lsN n cs e la st k=(zIC st s st.length).length) /\
  ∀ s,s<k->zOT n cs e la (zIC st s st.length)=false->0<=lsN n cs e la st k/\lsN n cs e la st k<=(zIC st s st.length).length
 |0=>⟨.inl rfl,fun s hs=>absurd hs (bH s)⟩
 | k + 1=>by
  obtain⟨h1,h2⟩:=zQf (n:=n) (cs:=cs) (e:=e) (la:=la) (st:=st) k;rw[zMj];generalize lsN n cs e la st k=b at *;unfold lsF;by_cases hs:0<=b/\b<=(zIC st k st.length).length
  ·rw[if_pos hs];refine⟨h1.imp id fun⟨s,g1,g2,g3⟩=>⟨s,by omega,g2,g3⟩,fun s hsk hl=>?_⟩;rcases bC.1 hsk with g|rfl
   ·exact h2 s g hl
   ·exact hs
  rw[if_neg hs];cases hl:zOT n cs e la (zIC st k st.length)
  ·rw[if_neg (by simp)];refine⟨.inr ⟨k,by omega,hl,rfl⟩,fun s hsk vD=>⟨by omega,?_⟩⟩;rcases bC.1 hsk with g|rfl
   ·have:=h2 s g vD;omega
   ·exact fE _
  ·rw[if_pos rfl];refine⟨h1.imp id fun⟨s,g1,g2,g3⟩=>⟨s,by omega,g2,g3⟩,fun s hsk vD=>?_⟩;rcases bC.1 hsk with g|rfl
   ·exact h2 s g vD
   ·rw[hl] at vD;cases vD
theorem zYr{s j k:Nat}(hj:j<k):(s+2 ^ k) / 2 ^ j % 2=s / 2 ^ j % 2:=by
 obtain⟨d,rfl⟩:∃ d,k=j+(d+1):=⟨k-j-1,by omega⟩;rw[Nat.pow_add,ii,Nat.add_mul_div_left _ _ (Nat.pow_pos (by omega)),Nat.add_mod,Nat.mul_mod_left,bR,Nat.mod_mod]
theorem zPQ{st:LI}{s k:Nat}:∀ m,m<=k->zIC st (s+2 ^ k) m=zIC st s m
 |0,_=>rfl|m+1,hm=>by rw[zEt,zEt,zYr (j:=m) (k:=k) (by omega),zPQ m (by omega)]
theorem zQx{st:LI}(p:Int->Bool):∀ k,k<=st.length->∃ s,s<2 ^ k/\zIC st s k=(st.take k).filter p
 |0,_=>⟨0,by simp,by simp[zIC]⟩
 | k + 1,hk=>by
  obtain⟨s,h1,h2⟩:=zQx (st:=st) p k (by omega);have hd:s / 2 ^ k=0:=Nat.div_eq_of_lt h1;rw[zBs (l:=st) (d:=0) (by omega),cR];by_cases hp:p (st.getD k 0)=true
  ·refine⟨s+2 ^ k,by rw[ii];omega,?_⟩;have hb:(s+2 ^ k) / 2 ^ k % 2=1:=by
    rw[Nat.add_div_right _ (Nat.pow_pos (by omega)),hd]
   rw[zEt,if_pos hb,zPQ k (bi _),h2,dA,if_pos hp];rfl
  ·refine⟨s,by rw[ii];omega,?_⟩;rw[zEt,if_neg (by rw[hd];simp),h2,dA,if_neg hp];simp
end Go.Eng
namespace Go.Eng
open Go Go.Proofs
theorem Tr.ge{n:Nw}{w:LI}{S:Nat->Nat->Prop}(ht:Tr n w S){h c:Nat}(hh:h<n.h.toNat)(hc:c<8){v:Int}:v<=w.getD (h*8+c) 0↔v<=-1\/∃ i,i<n.n.length/\(zAi n).getD i 0=(c:Int)/\S h i/\v<=i:=by
 have ha:=ht.at_ h c hh hc;constructor
 ·intro hv;rcases ha with h1|⟨i,g1,g2,g3,g4⟩
  ·exact .inl (by omega)
  ·exact .inr ⟨i,g1,g2,g4,by omega⟩
 ·rintro(h1|⟨i,g1,g2,g3,g4⟩)
  ·rcases ha with h2|⟨i,_,_,g3,_⟩<;>omega
  ·have:=ht.top h i hh g1 g3;rw[g2,b7] at this;omega
theorem zHH{n:Nw}{cs:LP}(ho:CrW n cs):Tr n (zJt n cs) fun a i=>zEb n cs a i=true :=
 (Tr.begN ho n.h.toNat (bi _)).same fun a i ha _=>⟨fun h=>h.2,fun h=>⟨ha,h⟩⟩
theorem zFe{n:Nw}{cs ds:LP}(h1:CrW n cs)(h2:CrW n ds)(h3:CrW n (cs++ds)){c:Nat}(hc:c<8):∀ (e:Nat) (h:Nat) (v:Int),h<n.h.toNat->(v<=(zAM n (cs++ds) e).getD (h*8+c) 0↔v<=(zAM n cs e).getD (h*8+c) 0\/v<=(zAM n ds e).getD (h*8+c) 0)
 | 0,h,v,hh=>by
  have e:∀ i:Int,zEb n (cs++ds) h i=(zEb n cs h i||zEb n ds h i):=fun i=>by simp[zEb]
  show v<=(zJt n (cs++ds)).getD _ 0↔v<=(zJt n cs).getD _ 0\/v<=(zJt n ds).getD _ 0
  rw[(zHH h3).ge hh hc,(zHH h1).ge hh hc,(zHH h2).ge hh hc];constructor
  ·rintro(g|⟨i,g1,g2,g3,g4⟩)
   ·exact .inl (.inl g)
   ·rw[e,bS] at g3;rcases g3 with g3|g3
    ·exact .inl (.inr ⟨i,g1,g2,g3,g4⟩)
    ·exact .inr (.inr ⟨i,g1,g2,g3,g4⟩)
  ·rintro((g|⟨i,g1,g2,g3,g4⟩)|(g|⟨i,g1,g2,g3,g4⟩))
   ·exact .inl g
   ·exact .inr ⟨i,g1,g2,by rw[e,g3];rfl,g4⟩
   ·exact .inl g
   ·exact .inr ⟨i,g1,g2,by rw[e,g3,iG],g4⟩
 | e + 1,h,v,hh=>by
  have ih:=zFe h1 h2 h3 hc e;have vz:∀ o,o∈zHf n h n.h.toNat->o<n.h.toNat:=fun o hm=>bx.1 (bT.1 hm).1;show v<=(zCv n (zAM n (cs++ds) e)).getD _ 0↔v<=(zCv n (zAM n cs e)).getD _ 0\/v<=(zCv n (zAM n ds e)).getD _ 0
  rw[zFW h1.nw (zBQ _) hh hc,zFW h1.nw (zBQ _) hh hc,zFW h1.nw (zBQ _) hh hc,ih h v hh];constructor
  ·rintro((g|g)|⟨o,g1,g2⟩)
   ·exact .inl (.inl g)
   ·exact .inr (.inl g)
   ·rcases(ih o v (vz o g1)).1 g2 with g|g
    ·exact .inl (.inr ⟨o,g1,g⟩)
    ·exact .inr (.inr ⟨o,g1,g⟩)
  ·rintro((g|⟨o,g1,g2⟩)|(g|⟨o,g1,g2⟩))
   ·exact .inl (.inl g)
   ·exact .inr ⟨o,g1,(ih o v (vz o g1)).2 (.inl g2)⟩
   ·exact .inl (.inr g)
   ·exact .inr ⟨o,g1,(ih o v (vz o g1)).2 (.inr g2)⟩
theorem zUd{n:Nw}{d:Int×Int}(h1:CrW n [d]){c:Nat}(hc:c<8):∀ (e:Nat) (h:Nat) (v:Int),h<n.h.toNat->-1<v->(v<=(zAM n [d] e).getD (h*8+c) 0↔v<=d.1/\0<=(zAM n [d] e).getD (h*8+c) 0)
 | 0,h,v,hh,hv=>by
  have hd:=(h1.cs d d6).1;have e:∀ i:Int,zEb n [d] h i=true->d.1=i:=fun i hi=>by
   simp only[zEb,fD,iW,fU,hrB,bb,decide_eq_true_eq] at hi;exact hi.1
  show v<=(zJt n [d]).getD _ 0↔v<=d.1/\0<=(zJt n [d]).getD _ 0
  rw[(zHH h1).ge hh hc,(zHH h1).ge hh hc];constructor
  ·rintro(g|⟨i,g1,g2,g3,g4⟩)
   ·omega
   ·have:=e i g3;exact⟨by omega,.inr ⟨i,g1,g2,g3,by omega⟩⟩
  ·rintro⟨g0,(g|⟨i,g1,g2,g3,g4⟩)⟩
   ·omega
   ·have:=e i g3;exact .inr ⟨i,g1,g2,g3,by omega⟩
 | e + 1,h,v,hh,hv=>by
  have ih:=zUd h1 hc e;have vz:∀ o,o∈zHf n h n.h.toNat->o<n.h.toNat:=fun o hm=>bx.1 (bT.1 hm).1;show v<=(zCv n (zAM n [d] e)).getD _ 0↔v<=d.1/\0<=(zCv n (zAM n [d] e)).getD _ 0
  rw[zFW h1.nw (zBQ _) hh hc,zFW h1.nw (zBQ _) hh hc,ih h v hh hv];constructor
  ·rintro(⟨g1,g2⟩|⟨o,g1,g2⟩)
   ·exact⟨g1,.inl g2⟩
   ·have:=(ih o v (vz o g1) hv).1 g2;exact⟨this.1,.inr ⟨o,g1,this.2⟩⟩
  ·rintro⟨g0,(g|⟨o,g1,g2⟩)⟩
   ·exact .inl ⟨g0,g⟩
   ·exact .inr ⟨o,g1,(ih o v (vz o g1) hv).2 ⟨g0,g2⟩⟩
theorem zPv{n:Nw}{w:LI}{g:Int×Int}:g∈zAI n w↔∃ h i:Nat,h<n.h.toNat/\i<n.n.length/\g=((h:Int),(i:Int))/\zKS n w h i=true:=by
 refine⟨zD7,?_⟩;rintro⟨h,i,h1,h2,rfl,h3⟩;simp only[zAI,zRX,cS,bx,zOe,bQ,bT];exact⟨h,h1,i,⟨h2,h3⟩,rfl⟩
theorem zMy{n:Nw}{w:LI}{h i:Nat}(hh:h<n.h.toNat)(hi:i<n.n.length):((h:Int),(i:Int))∈zAI n w↔zKS n w h i=true:=by
 rw[zPv];constructor
 ·rintro⟨h',i',_,_,he,hb⟩;simp only[bB] at he;obtain rfl:h=h':=by omega
  obtain rfl:i=i':=by omega
  exact hb
 ·exact fun hb=>⟨h,i,hh,hi,rfl,hb⟩
theorem zUT{n:Nw}{w w':LI}{g:Int×Int}(hg:g∈zAI n w):(g∈zD6 n w' (zAI n w))↔g∉zAI n w':=by
 obtain⟨h,i,h1,h2,rfl,h3⟩:=zD7 hg;rw[zMy h1 h2];simp only[zD6,bT,hg,true_and,zV1,decide_eq_true_eq,b7];simp only[zKS,bb,decide_eq_true_eq] at h3 ⊢;constructor
 ·exact fun a b=>a b.1
 ·exact fun a b=>a ⟨b,h3.2⟩
end Go.Eng
set_option maxHeartbeats 1000000
namespace Go.Eng
open Go
end Go.Eng
set_option maxHeartbeats 1000000
namespace Go.Eng
open Go
end Go.Eng
set_option maxHeartbeats 1000000
namespace Go.Eng
open Go
theorem zSF{n:Nw}{a b:LP}(ho:NwOk n){c:Nat}(hc:c<8)(h0:∀ h,h<n.h.toNat->∀ v,v<=(zJt n a).getD (h*8+c) 0↔v<=(zJt n b).getD (h*8+c) 0) :
  ∀ e h,h<n.h.toNat->∀ v,v<=(zAM n a e).getD (h*8+c) 0↔v<=(zAM n b e).getD (h*8+c) 0
 |0=>h0|e+1=>fun h hh v=>by
  have ih:=zSF ho hc h0 e;show v<=(zCv n (zAM n a e)).getD (h*8+c) 0↔v<=(zCv n (zAM n b e)).getD (h*8+c) 0
  rw[zFW ho (zBQ e) hh hc,zFW ho (zBQ e) hh hc,ih h hh];refine or_congr fq ⟨fun⟨o,h1,h2⟩=>⟨o,h1,(ih o (zKl h1) v).1 h2⟩,fun⟨o,h1,h2⟩=>⟨o,h1,(ih o (zKl h1) v).2 h2⟩⟩
theorem zLH{n:Nw}{a:LP}(ho:NwOk n){c:Nat}(hc:c<8)(h0:∀ h,h<n.h.toNat->¬ 0<=(zJt n a).getD (h*8+c) 0) :
  ∀ e h,h<n.h.toNat->¬ 0<=(zAM n a e).getD (h*8+c) 0
 |0=>h0|e+1=>fun h hh=>by
  have ih:=zLH ho hc h0 e;show ¬ 0<=(zCv n (zAM n a e)).getD (h*8+c) 0
  rw[zFW ho (zBQ e) hh hc];rintro(h1|⟨o,h1,h2⟩)
  ·exact ih h hh h1
  ·exact ih o (zKl h1) h2
end Go.Eng
set_option maxHeartbeats 1000000
namespace Go.Eng
open Go
def zVN(n:Nw)(c:Int×Int)(e h k:Nat):Prop:=0<=(zAM n [c] e).getD (h*8+k) 0
theorem zDm{n:Nw}{cs ds:LP}(h:CrW n (cs++ds)):CrW n cs/\CrW n ds:=by
 have hl:=h.len;rw[bt] at hl;exact⟨⟨h.nw,by omega,fun c hc=>h.cs c (bk.2 (.inl hc))⟩,⟨h.nw,by omega,fun c hc=>h.cs c (bk.2 (.inr hc))⟩⟩
theorem zQn{n:Nw}{la:Int}{k:Nat}(hk:k<8)(e:Nat){h:Nat}(hh:h<n.h.toNat){v:Int}(hv : -1<v):∀ (ext:LP),CrW n ext->(∀ c∈ext,c.1=la) ->
  (v<=(zAM n ext e).getD (h*8+k) 0↔v<=la/\∃ c∈ext,zVN n c e h k)
 | [],ho,_=>by
  have h0:¬ 0<=(zAM n [] e).getD (h*8+k) 0:=zLH ho.nw hk (fun a ha=>by
   rw[(zHH ho).ge ha hk];rintro(h1|⟨i,_,_,h3,_⟩)
   ·omega
   ·simp[zEb] at h3) e h hh
  constructor
  ·intro h1;exact absurd (by omega) h0
  ·rintro⟨_,c,hc,_⟩;simp at hc
 | c :: ext,ho,ue=>by
  have hp:=zDm (cs:=[c]) (ds:=ext) ho;have ih:=zQn hk e hh hv ext hp.2 fun x hx=>ue x (cM _ hx);rw[show c::ext=[c]++ext from rfl,zFe hp.1 hp.2 ho hk e h v hh,ih,zUd hp.1 hk e h v hh hv,ue c (by simp)];constructor
  ·rintro(⟨h1,h2⟩|⟨h1,x,hx,h2⟩)
   ·exact⟨h1,c,by simp,h2⟩
   ·exact⟨h1,x,by simp[hx],h2⟩
  ·rintro⟨h1,x,hx,h2⟩;rcases bk.1 hx with hx|hx
   ·rw[bw.1 hx] at h2;exact .inl ⟨h1,h2⟩
   ·exact .inr ⟨h1,x,hx,h2⟩
theorem zMf{n:Nw}{cs ext:LP}{la:Int}(ho:CrW n (cs++ext))(ue:∀ c∈ext,c.1=la)(e:Nat){h x:Nat}(hh:h<n.h.toNat)(hx:x<n.n.length)(hl:(zAx n).getD x 0=la) :
  zKS n (zAM n (cs++ext) e) h x=true↔zKS n (zAM n cs e) h x=true/\¬ ∃ c∈ext,zVN n c e h ((zAi n).getD x 0).toNat:=by
 have hp:=zDm ho;have hn:=ho.nw;have hf:=zBL hn x hx;have h8:=hn.nl;have hu:=fun v=>zFe hp.1 hp.2 ho (c:=((zAi n).getD x 0).toNat) (by omega) e h v hh;have hm:=fun(v:Int) (hv : -1<v)=>zQn (la:=la) (k:=((zAi n).getD x 0).toNat) (by omega) e hh hv ext hp.2 ue;obtain⟨l,ul,v6,_,hl4,_⟩:=zBX hn hx;have vi:(x:Int)<=la:=by omega
 simp only[zKS,bb,decide_eq_true_eq,hl];generalize (zAM n (cs++ext) e).getD (h*8+((zAi n).getD x 0).toNat) 0=U at *;generalize (zAM n cs e).getD (h*8+((zAi n).getD x 0).toNat) 0=A at *;generalize (zAM n ext e).getD (h*8+((zAi n).getD x 0).toNat) 0=B at *;have e1:=(hu A).2 (.inl (fE _));constructor
 ·rintro⟨h1,h2⟩;have jT:¬ ∃ c∈ext,zVN n c e h ((zAi n).getD x 0).toNat:=fun hc=>by
   have h3:=(hm la (by omega)).2 ⟨fE _,hc⟩;have h4:=(hu la).2 (.inr h3);omega
  refine⟨⟨?_,h2⟩,jT⟩;rcases(hu x).1 (by omega) with h3|h3
  ·omega
  ·exact absurd ((hm x (by omega)).1 h3).2 jT
 ·rintro⟨⟨h1,h2⟩,jT⟩;refine⟨?_,h2⟩;by_cases hU:U<=-1
  ·omega
  ·rcases(hu U).1 (fE _) with h3|h3
   ·omega
   ·exact absurd ((hm U (by omega)).1 h3).2 jT
end Go.Eng
set_option maxHeartbeats 1000000
namespace Go.Eng
open Go
def zN0(n:Nw)(x y:Int):Bool:=decide ((zAi n).getD y.toNat 0=(zAi n).getD x.toNat 0)
def zWi(n:Nw)(l:LI)(x:Int):LI:=if l.findIdx (zN0 n x)<l.length then l.set (l.findIdx (zN0 n x)) (max (l.getD (l.findIdx (zN0 n x)) 0) x) else l++[x]
structure RowK' (n:Nw) (l:LI):Prop where
 el:∀ x∈l,0<=x/\x<n.n.length
 one:l.Pairwise fun x y=>(zAi n).getD x.toNat 0≠(zAi n).getD y.toNat 0
def lev(n:Nw)(l:LI)(c:Nat)(v:Int):Prop:=v<=-1\/∃ y∈l,(zAi n).getD y.toNat 0=(c:Int)/\v<=y
theorem zWK:∀ (k:Nat) (l:LN),l.Nodup->(∀ x∈l,x<k)->l.length<=k
 |0,l,_,h=>by
  cases l with
  |nil=>simp|cons x l=>exact absurd (h x (by simp)) (by omega)
 | k + 1,l,hn,h=>by
  have h1:=zWK k (l.erase k) (hn.erase k) fun x hx=>by
   have h2:=h x (List.mem_of_mem_erase hx);have h3:x≠k:=fun e=>by
    subst e;rw[hn.erase_eq_filter] at hx;have:=(bT.1 hx).2;simp at this
   omega
  rw[List.length_erase] at h1;split at h1<;>omega
theorem zTD(n:Nw)(l:LI)(x:Int):(∃ a y b,l=a++y::b/\(zAi n).getD y.toNat 0=(zAi n).getD x.toNat 0/\zWi n l x=a++max y x::b)\/((∀ y∈l,(zAi n).getD y.toNat 0≠(zAi n).getD x.toNat 0)/\zWi n l x=l++[x]):=by
 by_cases h:l.findIdx (zN0 n x)<l.length
 ·left;have hp:=fb (w:=h);refine⟨l.take (l.findIdx (zN0 n x)),l[l.findIdx (zN0 n x)],l.drop (l.findIdx (zN0 n x)+1),?_,by simpa[zN0] using hp,?_⟩
  ·rw[List.getElem_cons_drop,cF]
  ·unfold zWi;rw[if_pos h,zAp h,cm,if_pos h]
 ·right;refine⟨fun y hy he=>h (List.findIdx_lt_length.2 ⟨y,hy,decide_eq_true he⟩),?_⟩;unfold zWi;rw[if_neg h]
theorem zXs{n:Nw}{l:LI}{x:Int}(hl:RowK' n l)(hx:0<=x/\x<n.n.length):RowK' n (zWi n l x)/\∀ c v,lev n (zWi n l x) c v↔lev n l c v\/(zAi n).getD x.toNat 0=(c:Int)/\v<=x:=by
 obtain⟨h1,h2⟩:=hl;rcases zTD n l x with⟨a,y,b,rfl,hy,he⟩|⟨hn,he⟩
 ·rw [he];have hm:(zAi n).getD (max y x).toNat 0=(zAi n).getD y.toNat 0:=by
   rcases Int.le_total y x with h|h
   ·rw[iE h,hy]
   ·rw[ig h]
  have hyy:=h1 y (by simp);refine⟨⟨fun z hz=>?_,?_⟩,fun c v=>?_⟩
  ·rcases bk.1 hz with h|h
   ·exact h1 z (by simp[h])
   ·rcases bD.1 h with rfl|h
    ·omega
    ·exact h1 z (by simp[h])
  ·rw[fa,dl] at h2 ⊢;obtain⟨g1,⟨g2,g3⟩,g4⟩:=h2;refine⟨g1,⟨fun z hz=>by rw[hm];exact g2 z hz,g3⟩,fun z hz t ht=>?_⟩;rcases bD.1 ht with rfl|ht
   ·rw[hm];exact g4 z hz y (by simp)
   ·exact g4 z hz t (by simp[ht])
  ·unfold lev;constructor
   ·rintro(h|⟨z,hz,h3,h4⟩)
    ·exact .inl (.inl h)
    ·rcases bk.1 hz with h|h
     ·exact .inl (.inr ⟨z,by simp[h],h3,h4⟩)
     ·rcases bD.1 h with rfl|h
      ·rw[hm] at h3;rcases Int.le_total y x with yR|yR
       ·rw[iE yR] at h4;exact .inr ⟨by rw[<- hy];exact h3,h4⟩
       ·rw[ig yR] at h4;exact .inl (.inr ⟨y,by simp,h3,h4⟩)
      ·exact .inl (.inr ⟨z,by simp[h],h3,h4⟩)
   ·rintro((h|⟨z,hz,h3,h4⟩)|⟨h3,h4⟩)
    ·exact .inl h
    ·rcases bk.1 hz with h|h
     ·exact .inr ⟨z,by simp[h],h3,h4⟩
     ·rcases bD.1 h with rfl|h
      ·exact .inr ⟨max z x,by simp,by rw[hm];exact h3,by omega⟩
      ·exact .inr ⟨z,by simp[h],h3,h4⟩
    ·exact .inr ⟨max y x,by simp,by rw[hm,hy];exact h3,by omega⟩
 ·rw [he];refine ⟨⟨fun z hz=>?_,?_⟩,fun c v=>?_⟩
  ·rcases bk.1 hz with h|h
   ·exact h1 z h
   ·rw[bw.1 h];exact hx
  ·rw[fa];exact⟨h2,by simp,fun z hz t ht=>by rw[bw.1 ht];exact hn z hz⟩
  ·unfold lev;constructor
   ·rintro(h|⟨z,hz,h3,h4⟩)
    ·exact .inl (.inl h)
    ·rcases bk.1 hz with h|h
     ·exact .inl (.inr ⟨z,h,h3,h4⟩)
     ·rw[bw.1 h] at h3 h4;exact .inr ⟨h3,h4⟩
   ·rintro((h|⟨z,hz,h3,h4⟩)|⟨h3,h4⟩)
    ·exact .inl h
    ·exact .inr ⟨z,by simp[hz],h3,h4⟩
    ·exact .inr ⟨x,by simp,h3,h4⟩
structure TR (n:Nw) (S:Nat->Nat->Int->Prop) (rows:List LI):Prop where
 len:rows.length=n.h.toNat
 row:∀ h,h<n.h.toNat->RowK' n (rows.getD h [])
 lv:∀ h,h<n.h.toNat->∀ c,c<8->∀ v,lev n (rows.getD h []) c v↔S h c v
theorem TR.same{n:Nw}{S S':Nat->Nat->Int->Prop}{rows:List LI}(hr:TR n S rows)(h:∀ a,a<n.h.toNat->∀ c,c<8->∀ v,S a c v↔S' a c v):TR n S' rows :=
 ⟨hr.len,hr.row,fun a ha c hc v=>(hr.lv a ha c hc v).trans (h a ha c hc v)⟩
theorem TR.put{n:Nw}{S:Nat->Nat->Int->Prop}{rows:List LI}(hr:TR n S rows){h:Nat}(hh:h<n.h.toNat){x:Int}(hx:0<=x/\x<n.n.length) :
  TR n (fun a c v=>S a c v\/a=h/\(zAi n).getD x.toNat 0=(c:Int)/\v<=x) (rows.set h (zWi n (rows.getD h []) x)):=by
 obtain⟨h1,h2⟩:=zXs (hr.row h hh) hx;have hg:∀ a,(rows.set h (zWi n (rows.getD h []) x)).getD a []=if h=a then zWi n (rows.getD h []) x else rows.getD a []:=by
  intro a;have hl:=hr.len;simp only[cE,d9];by_cases e:h=a
  ·subst e;rw[if_pos rfl,if_pos rfl,if_pos (by omega)];rfl
  ·rw[if_neg e,if_neg e]
 refine⟨by simpa using hr.len,fun a ha=>?_,fun a ha c hc v=>?_⟩
 ·rw[hg];split
  ·exact h1
  ·exact hr.row a ha
 ·rw[hg];by_cases e:h=a
  ·subst e;rw[if_pos rfl,h2,hr.lv h hh c hc];exact⟨fun h=>h.imp id fun h=>⟨rfl,h⟩,fun h=>h.imp id fun h=>h.2⟩
  ·rw[if_neg e,hr.lv a ha c hc];exact⟨.inl,fun h=>h.elim id fun h=>absurd h.1.symm e⟩
end Go.Eng
set_option maxHeartbeats 1000000
namespace Go.Eng
open Go
section
variable (all:LP) (cov:Int×Int->Int×Int->Bool)
def chs:Nat->LP->LP->Bool×LP->Bool×LP
 |0,_,_,st=>st|k+1,ch,left,st=>if (st.1&&decide (st.2.length<=ch.length))=true then st else match left with
  |[]=>(true,ch)|g::rest=>all.foldl (fun st c=>if cov c g=true then chs k (ch++[c]) ((g::rest).filter fun x=>!cov c x) st else st) st
def zNl(ext left:LP):Prop:=(∀ c∈ext,c∈all)/\∀ g∈left,∃ c∈ext,cov c g=true
structure ChOk (ch left:LP) (st r:Bool×LP):Prop where
 new:r=st\/r.1=true/\∃ ext,r.2=ch++ext/\zNl all cov ext left
 mono:st.1=true->r.1=true/\r.2.length<=st.2.length
 best:∀ ext,zNl all cov ext left->r.1=true/\r.2.length<=ch.length+ext.length
theorem zUx : ∀ (k : Nat) (ch left:LP) (st:Bool×LP),left.length<k->ChOk all cov ch left st (chs all cov k ch left st)
 |0,_,_,_,h=>absurd h (bH _)
 | k + 1,ch,left,st,hk=>by
  unfold chs;by_cases h0:(st.1&&decide (st.2.length<=ch.length))=true
  ·rw[if_pos h0];rw[bb,decide_eq_true_eq] at h0;exact⟨.inl rfl,fun h=>⟨h,bi _⟩,fun ext _=>⟨h0.1,by omega⟩⟩
  rw[if_neg h0]
  cases left with
  |nil=>
   refine⟨.inr ⟨rfl,[],by simp,by simp[zNl]⟩,fun h=>⟨rfl,?_⟩,fun ext _=>⟨rfl,by simp⟩⟩;rw[bb,decide_eq_true_eq] at h0;have:¬ st.2.length<=ch.length:=fun h1=>h0 ⟨h,h1⟩;show ch.length<=st.2.length
   omega
  | cons g rest =>
   have key : ∀ (L : LP) (st:Bool×LP),(∀ c∈L,c∈all) ->
     let r:=L.foldl (fun st c=>if cov c g=true then chs all cov k (ch++[c]) ((g::rest).filter fun x=>!cov c x) st else st) st
     (r=st\/r.1=true/\∃ ext,r.2=ch++ext/\zNl all cov ext (g::rest))/\(st.1=true->r.1=true/\r.2.length<=st.2.length) /\
      ∀ c∈L,cov c g=true->∀ ext,zNl all cov ext ((g::rest).filter fun x=>!cov c x)->r.1=true/\r.2.length<=ch.length+1+ext.length:=by
    intro L
    induction L with
    |nil=>intro st _;exact⟨.inl rfl,fun h=>⟨h,bi _⟩,fun c hc=>by simp at hc⟩
    | cons c L ih =>
     intro st hL;simp only[bY];have hLt:∀ c∈L,c∈all:=fun x hx=>hL x (cM _ hx);by_cases hc:cov c g=true
     ·rw [if_pos hc];have hZ:((g::rest).filter fun x => !cov c x).length<k:=by
       have:((g::rest).filter fun x=>!cov c x)=rest.filter fun x=>!cov c x:=by rw[b4 (by simp[hc])]
       rw[this];have:=bJ (fun x=>!cov c x) rest;simp only[bE] at hk;omega
      have hr:=zUx k (ch++[c]) ((g::rest).filter fun x=>!cov c x) st hZ;generalize chs all cov k (ch++[c]) ((g::rest).filter fun x=>!cov c x) st=st1 at hr ⊢;obtain⟨i1,i2,i3⟩:=ih st1 hLt;refine⟨?_,fun h=>?_,fun x hx hxg ext he=>?_⟩
      ·rcases i1 with i1|i1
       ·rw[i1];rcases hr.new with h|⟨h,ext,h2,h3,h4⟩
        ·exact .inl h
        ·refine .inr ⟨h,c::ext,by rw[h2];simp,fun y hy=>?_,fun y hy=>?_⟩
         ·rcases bD.1 hy with rfl|hy
          ·exact hL _ (by simp)
          ·exact h3 y hy
         ·by_cases hcy:cov c y=true
          ·exact⟨c,by simp,hcy⟩
          ·obtain⟨z,hz,hzy⟩:=h4 y (bT.2 ⟨hy,by simpa using hcy⟩);exact⟨z,by simp[hz],hzy⟩
       ·exact .inr i1
      ·have h1:=hr.mono h;have h2:=i2 h1.1;exact⟨h2.1,by omega⟩
      ·rcases bD.1 hx with rfl|hx
       ·have h1:=hr.best ext he;have h2:=i2 h1.1;rw[bt,bX] at h1;exact⟨h2.1,by omega⟩
       ·exact i3 x hx hxg ext he
     ·rw[if_neg hc];obtain⟨i1,i2,i3⟩:=ih st hLt;refine⟨i1,i2,fun x hx hxg ext he=>?_⟩;rcases bD.1 hx with rfl|hx
      ·exact absurd hxg hc
      ·exact i3 x hx hxg ext he
   obtain⟨k1,k2,k3⟩:=key all st fun _ h=>h;refine⟨k1,k2,fun ext ⟨he1,he2⟩=>?_⟩;obtain⟨c,hc,hcg⟩:=he2 g (by simp);have h1:=k3 c (he1 c hc) hcg (ext.erase c) ⟨fun x hx=>he1 x (List.mem_of_mem_erase hx),fun y hy=>by
    obtain⟨hy1,hy2⟩:=bT.1 hy;obtain⟨z,hz,hzy⟩:=he2 y hy1;have hI:z≠c:=fun e=>by rw[e] at hzy;simp[hzy] at hy2
    exact⟨z,(List.mem_erase_of_ne hI).2 hz,hzy⟩⟩
   rw[iH hc] at h1;have:=fT hc;exact⟨h1.1,bN h1.2 (by omega)⟩
theorem zJT:∀ (k:Nat) (ch left:LP) (st:Bool×LP) (m:Nat),st.2.length<=m->ch.length+left.length<=m->(chs all cov k ch left st).2.length<=m
 |0,_,_,_,_,h,_=>h
 | k + 1,ch,left,st,m,h1,h2=>by
  unfold chs;split
  ·exact h1
  cases left with
  |nil=>simpa using h2
  | cons g rest =>
   have key:∀ (L:LP) (st:Bool×LP),st.2.length<=m->(L.foldl (fun st c=>if cov c g=true then chs all cov k (ch++[c]) ((g::rest).filter fun x=>!cov c x) st else st) st).2.length<=m:=by
    intro L
    induction L with
    |nil=>intro st h;exact h|cons c L ih=>
     intro st h;rw[bY];refine ih _ ?_;by_cases hc:cov c g=true
     ·rw[if_pos hc];refine zJT k _ _ _ m h ?_;rw[b4 (by simp[hc])];have:=bJ (fun x=>!cov c x) rest;simp only[bt,bX,bE,b8] at h2 ⊢;omega
     ·rw[if_neg hc];exact h
   exact key all st h1
def chF(k:Nat)(ch:LP)(g:Int×Int)(rest:LP)(st:Bool×LP)(c:Int×Int):Bool×LP:=if cov c g=true then chs all cov k (ch++[c]) ((g::rest).filter fun x=>!cov c x) st else st
theorem zTw{k:Nat}{ch:LP}{g:Int×Int}{rest:LP}{m:Nat}(h2:ch.length+(g::rest).length<=m):∀ (L:LP) (st:Bool×LP),st.2.length<=m->(L.foldl (chF all cov k ch g rest) st).2.length<=m:=by
 intro L
 induction L with
 |nil=>intro st h;exact h|cons c L ih=>
  intro st h;rw[bY];refine ih _ ?_;unfold chF;by_cases hc:cov c g=true
  ·rw[if_pos hc];refine zJT all cov k _ _ _ m h ?_;rw[b4 (by simp[hc])];have:=bJ (fun x=>!cov c x) rest;simp only[bt,bX,bE,b8] at h2 ⊢;omega
  ·rw[if_neg hc];exact h
theorem zP3{k:Nat}{ch:LP}{g:Int×Int}{rest:LP}{st:Bool×LP}(h:¬ (st.1&&decide (st.2.length<=ch.length))=true):chs all cov (k+1) ch (g::rest) st=all.foldl (chF all cov k ch g rest) st:=by
 unfold chs;rw[if_neg h];rfl
theorem zVu{k:Nat}{ch left:LP}{st:Bool×LP}(h:(st.1&&decide (st.2.length<=ch.length))=true):chs all cov (k+1) ch left st=st:=by
 unfold chs;rw[if_pos h]
theorem zSg{k:Nat}{ch:LP}{st:Bool×LP}(h:¬ (st.1&&decide (st.2.length<=ch.length))=true):chs all cov (k+1) ch [] st=(true,ch):=by
 unfold chs;rw[if_neg h]
end
theorem zZG{es es' es'':List (PV×PV)}(h:es'=es''):zAA (fun _=>some (.omap es')) (.box (.omap es)) [(0,0)]=some (.box (.omap es''))/\zAP (.box (.omap es)) (.box (.omap es'')) [(0,0)]=true:=by
 subst h;exact⟨rfl,rfl⟩
end Go.Eng
set_option maxRecDepth 10000
set_option maxHeartbeats 4000000
namespace Go.Eng
open Go Go.Proofs
theorem f121_4(n:Nw)(cs:LP)(e:Int)(st:LI)(yX:EvOk n cs e)(yD:st.length<1000000)(hin:(!st.all fun x=>inB x 0 (n.s.length-1))=false)(yU:¬ st.Nodup):FG 121 [nwV n,prs cs,I e,zA1 st] (.tup [.nilp,.sl [],.agg [.nilf],I 5]):=by
 have j2:=yX.cr;have jk:=j2.w;have hn:=j2.nw;have he:=yX.ev;have ga:=hn.sl.2;refine zAe Tryz.f121 ?_;refine zAh 6<|zAl 3<|S_a [(10,.ret (tup [zE9 n cs,I 0]) [])] (ap (f90_1 n cs e (by omega)) an)<|S_g 6<|zAc<|zAd 0<|zAh 3<|zAD<|zAl 3<|S_a [(7,.ret (bool (st.all fun x=>inB x 0 ((n.s.length:Int)-1))) [])] (ap (f108_2 n (by omega) st (by omega)) an)<|S_g 2<|zDw (!st.all fun x=>inB x 0 ((n.s.length:Int)-1)) (fun k0=>(zAh 5<|zAk<|E_a [] an (tup [PV.nilp,sl [],agg [PV.nilf],I 1]) [] ?_ rfl)) (fun k0=>(zAf<|zAc<|zAl 1<|S_a [(0,.n st.length)] (ap (lnS I st) an)<|S_g 1<|zAd 1 ?_))
 ·rw[hin] at k0;cases k0
 ·refine zAo (fun i=>i<=st.length/\∀ j,j<i->∀ k,k<j->st.getD j 0≠st.getD k 0) (fun(i:Nat)=>[(38,I (i:Nat))]) (fun i=>st.length-i) (0:Nat) ⟨bG _,fun j hj=>absurd hj (bH j)⟩ fun i ⟨hi,ha⟩=>?_;by_cases yB:i<st.length
  ·have ya:has (st.take i) (st.getD i 0)=false->∀ j,j<i+1->∀ k,k<j->st.getD j 0≠st.getD k 0:=fun h j hj=>by
    rcases bC.1 hj with h2|rfl
    ·exact ha j h2
    ·intro k hk he;rw[zKL,decide_eq_false_iff_not] at h;refine h ?_;rw[he,zAp (by omega)];exact fK.2 ⟨k,by omega,rfl⟩
   clear ha;refine zAh 1<|zAc<|zAs ((i:Int)<(st.length:Int)) (by omega)<|zAf<|zAc<|zAd 2<|zAl 1<|S_a [(2,.v (I (st.getD i 0)))] (ap (zBi (0) (by omega):(map I st)[i]? = some (I (st.getD i 0))) an)<|S_g 3<|zAl 2<|S_a [(3,.ob),(0,.ob),(0,.v (zA1 (take i st)))] (ap ((by exact zAQ (by simp only[bf,zzLn,zAJ]<;>omega)):i.ble (map I st).length=true)<|ap ((by exact all_map _):((map I st).all fun x=>x.cells.length.beq ((fun x=>x.size) Tryz.prog.types[3]))=true)<|ap ((by simp):sl (take i (drop 0 (map I st)))=zA1 (take i st)) an)<|zAn 1<|S_a [(8,.ret (bool (has (take i st) (st.getD i 0))) [])] (ap (f58 (take i st) (st.getD i 0) (by first|omega|(simp<;>omega))) an)<|zAR<|zDw (has (take i st) (st.getD i 0)) (fun k1=>(zAh 5<|zAk E_0)) (fun k1=>(zAf<|zAb<|S_i i<|S_g 1 ?_))
   exact rnd (i+1) ⟨by omega,ya k1⟩ (by omega)
  ·exact absurd (zP1 fun i hi=>ha i (by omega)) yU
end Go.Eng
set_option maxRecDepth 10000
set_option maxHeartbeats 4000000
namespace Go.Eng
open Go Go.Proofs
def zP2(P:Program)(t:TypeId):List Field:=match P.underlying t with
 |some (.struct fs)=>fs.toList|_=>[]
theorem zZF(a b c d:Int):eqT Tryz.prog 20 37 (.agg [I a,I b]) (.agg [I c,I d])=some (decide (a=c)&&decide (b=d)):=by
 have s1:eqT Tryz.prog 20 37 (.agg [I a,I b]) (.agg [I c,I d])=(match some (a==c) with|some true=>zRL (eqT Tryz.prog 19) (shT Tryz.prog) (.agg [I a,I b]) (.agg [I c,I d]) (zP2 Tryz.prog 37).tail|r=>r):=by kernel_rfl
 have s2:zRL (eqT Tryz.prog 19) (shT Tryz.prog) (.agg [I a,I b]) (.agg [I c,I d]) (zP2 Tryz.prog 37).tail=(match some (b==d) with|some true=>some true|r=>r):=by kernel_rfl
 rw[s1];show _=some ((a==c)&&(b==d))
 cases a==c
 ·rfl
 simp only[s2,ci];cases b==d<;>rfl
abbrev zCa(la:Int)(M:Int->LP)(s:Int):PV×PV:=(prV (la,s),prs (M s))
theorem zQE{la:Int}{M:Int->LP}{ss:LI}(s:Int):zCk Tryz.prog 37 (prV (la,s)) (ss.map (zCa la M)) 0=some (ss.findIdx? fun y=>decide (s=y)):=by
 rw[zJI (kx:=fun _=>la) (ky:=fun s=>s) (fun _=>rfl) zZF la s ss 0];simp
theorem zOA{la:Int}{M:Int->LP}{ss:LI}(hn:ss.Nodup){i:Nat}(hi:i<ss.length):zCk Tryz.prog 37 (prV (la,ss.getD i 0)) (ss.map (zCa la M)) 0=some (some i)/\zEP (ss.map (zCa la M)) i=some (prs (M (ss.getD i 0))):=by
 constructor
 ·rw[zQE,dj.2];refine⟨hi,by rw[decide_eq_true_eq,zAp hi],fun j hj=>?_⟩;rw[decide_eq_true_eq,zAp hi];intro e;have:=(dx.1 hn) j i (by omega) hi hj;exact this e.symm
 ·simp only[zEP,cC,bm hi,bz,zAp hi]
theorem zXB{la:Int}{M:Int->LP}{ss:LI}{s:Int}(h:s∉ss):zCk Tryz.prog 37 (prV (la,s)) (ss.map (zCa la M)) 0=some none:=by
 rw[zQE,dw.2];intro y hy;rw[decide_eq_false_iff_not];rintro rfl;exact h hy
section
variable [Yo]
theorem f188(la:Int)(M:Int->LP)(ss:LI)(hn:ss.Nodup)(hM:∀ s,(M s).length<=80)(i:Nat)(hi:i<ss.length)(g:Int×Int):FG 188 [prV g,.ref (.map (ss.map (zCa la M))),.ref (prV (la,ss.getD i 0))] (.bool (has (M (ss.getD i 0)) g)):=by
 obtain⟨yM,jP⟩:=zOA (la:=la) (M:=M) hn hi;have hl:=hM (ss.getD i 0);refine zAe Tryz.f188 ?_;refine zAh 2<|zAl 2<|S_a [(2,.ix (some i)),(0,.v (prs (M (ss.getD i 0))))] (ap yM<|ap (jP:zEP (map (zCa la M) ss) i=some (prs (M (ss.getD i 0)))) an)<|zAn 1<|S_a [(8,.ret (bool (has (M (ss.getD i 0)) g)) [])] (ap (f81 (M (ss.getD i 0)) g (by omega)) an)<|S_g 1<|zAk E_0
theorem f174_3(la:Int)(M:Int->LP)(ss:LI)(hn:ss.Nodup)(hM:∀ s,(M s).length<=80)(z:Nat)(hz:z<ss.length)(l:LP)(hl:l.length<4294967296):FG 174 [.sl (l.map prV),.func 188 [] [.ref (.map (ss.map (zCa la M))),.ref (prV (la,ss.getD z 0))]] (I (zEi (fun x=>has (M (ss.getD z 0)) x) l)):=by
 refine zAe Tryz.f174 ?_;refine zAh 1<|zAc<|zAl 1<|S_a [(0,.n l.length)] (ap (lnS prV l) an)<|S_g 1<|zAd 0 ?_
 refine zAo (fun i=>i<=l.length/\∀ j,j<i->(fun x=>has (M (ss.getD z 0)) x) (l.getD j d0)=false) (fun i=>[(8,I (i:Nat))]) (fun i=>l.length-i) (0:Nat) (by simp) fun i ⟨hi,ha⟩=>?_;refine zAh 1<|zAc<|zB2 ((i:Int)<(l.length:Int)) (fun k0=>(zAf<|zAc<|zAd 1<|zAh 2<|zAl 3<|S_a [(2,.v (prV (l.getD i d0)))] (ap (zBi d0 (by omega):(map prV l)[i]? = some (prV (l.getD i d0))) an)<|zAn 1<|S_a [(8,.ret (bool (has (M (ss.getD z 0)) (l.getD i d0))) [])] (ap (f188 la M ss (by omega) (by omega) z (by omega) (l.getD i d0)) an)<|zAR<|zDw (has (M (ss.getD z 0)) (l.getD i d0)) (fun k1=>(zAh 2<|zAk<|E_a [] an (I (i:Int)) [] ?_ rfl)) (fun k1=>(zAf<|zAb<|S_i i<|S_g 1 ?_)))) (fun k0=>(zAq 0<|zAh 1<|zAk<|E_a [] an (I (-1)) [] ?_ rfl))
 ·rw[zBK (i:=i) (by omega) (fun j hj=>by rw[<- zAp (d:=d0)];exact ha j hj) (by rw[<- zAp (d:=d0)];first|assumption|exact decide_eq_true ‹_›|(simp only[bF,decide_eq_false_iff_not];assumption))]
 ·refine⟨i+1,⟨by omega,fun j hj=>?_⟩,by omega,by kernel_rfl,by kernel_rfl⟩;rcases bC.1 hj with h|rfl
  ·exact ha j h
  ·first|assumption|exact decide_eq_false ‹_›|(simp only[bI,decide_eq_true_eq];first|assumption|(apply db;assumption))
 ·rw[zB6 fun j hj=>by rw[<- zAp (d:=d0)];exact ha j (by omega)]
theorem f122_3(la:Int)(M:Int->LP)(ss:LI)(hn:ss.Nodup)(hM:∀ s,(M s).length<=80)(z:Nat)(hz:z<ss.length)(l:LP)(hl:l.length<4294967296):FG 122 [.own 2 (l.map prV),.func 188 [] [.ref (.map (ss.map (zCa la M))),.ref (prV (la,ss.getD z 0))]] (.own 2 ((l.filter fun x=>!(has (M (ss.getD z 0)) x)).map prV)):=by
 have h1:=zQK (fun x=>has (M (ss.getD z 0)) x) l;have jK:=f174_3 la M ss hn hM z hz l hl;by_cases hm:zEi (fun x=>has (M (ss.getD z 0)) x) l = -1
 ·rw[hm] at jK;rw[h1.1 hm];refine zAe Tryz.f122 ?_;refine zAh 1<|zAl 2<|S_a [(3,.ob),(0,.v (prs l)),(3,.ret (I (-1)) [])] (ap (blz (map prV l))<|ap (frT prV l)<|ap jK an)<|S_g 1<|zAc<|zAh 2<|zBD<|zAl 1<|S_a [(2,.yes)] (ap ((by exact zA7 (by simp<;>omega)):(beq 0 0&&(map prV l).length.beq (map prV l).length)=true) an)<|zAR<|zAk<|E_z [(1,.yes),(1,.v (own 2 (map prV l)))] (ap (blz (map prV l))<|ap ((zAK zAL):own 2 (take (map prV l).length (drop 0 (map prV l)))=own 2 (map prV l)) an)
 ·obtain⟨i0,jn,hil0,LH⟩:=h1.2 hm;rw[jn] at jK;clear h1 hm;refine zAe Tryz.f122 ?_;refine zAh 1<|zAl 2<|S_a [(3,.ob),(0,.v (prs l)),(3,.ret (I (i0:Int)) [])] (ap (blz (map prV l))<|ap (frT prV l)<|ap jK an)<|S_g 1<|zAc<|zAh 2<|zAD<|zAf<|zAc<|zAl 1<|S_i i0<|S_g 1<|zAd 0 ?_
  refine zAo (fun(i,j,S)=>j<=l.length/\i<j/\S.length=l.length/\S.take i=(l.take j).filter (fun x=>!(has (M (ss.getD z 0)) x))/\∀ r,j<=r->S.getD r d0=l.getD r d0) (fun(i,j,S)=>[(0,.own 2 (S.map prV)),(5,I (i:Nat)),(6,I (j:Nat))]) (fun(_,j,_)=>l.length-j) (i0,i0+1,l) ⟨by omega,by omega,rfl,LH,fun _ _=>rfl⟩ fun(i,j,S) ⟨hj,qt,hS,ht,hd⟩=>?_;by_cases jN:j<l.length
  ·have qr:=True.intro;have hx:=hd j (bi j);have yD:=zFM (fun x=>!(has (M (ss.getD z 0)) x)) l j d0 jN;rw[<- hx] at yD;clear jK;have qL:=hd;clear hd hx;refine zAc<|zAl 2<|S_a [(0,.n S.length)] (ap (lnS prV S) an)<|S_g 1<|zAs ((j:Int)<(S.length:Int)) (by omega)<|zAf<|zAc<|zAd 1<|zAl 2<|S_a [(2,.ob),(1,.n j)] (ap ((by exact zAt (by simp only[bf,zzLn]<;>omega)):decide (j<(map prV S).length)=true)<|ap ((by simp):some (0+j)=some j) an)<|S_a [(0,.cs true ([I (S.getD j d0).fst,I (S.getD j d0).snd]))] (ap (zDe (q:=own 2 (map prV S)) (xs:=map prV S) (x:=prV (S.getD j d0)) rfl (zBi d0 (by omega)):zAy 0 (own 2 (map prV S)) [] j 0 Tryz.prog.types[108].size=some (true,[I (S.getD j d0).fst,I (S.getD j d0).snd])) an)<|S_g 2<|zAl 2<|S_a [(8,.ret (bool (has (M (ss.getD z 0)) (S.getD j d0))) [])] (ap (f188 la M ss (by omega) (by omega) z (by omega) (S.getD j d0)) an)<|S_g 1<|zDw (!has (M (ss.getD z 0)) (S.getD j d0)) (fun k0=>(zAl 3<|S_a [(2,.ob),(1,.n i)] (ap ((by exact zAt (by simp only[bf,zzLn]<;>omega)):decide (i<(map prV S).length)=true)<|ap ((by simp):some (0+i)=some i) an)<|S_a [(8,.root (own 2 (map prV (S.set i (S.getD j d0)))) true)] (ap (zOD (zBi d0 (by omega)) zFo:zBG (own 2 (map prV S)) [] i 0 (prV (S.getD j d0)).cells=some (own 2 (map prV (S.set i (S.getD j d0))))/\zAP (own 2 (map prV S)) (own 2 (map prV (S.set i (S.getD j d0)))) []=true) an)<|zAR<|zAb<|zAn 1<|S_i i<|S_g 1<|zAb<|zAn 1<|S_i j<|S_g 1 ?_)) (fun k0=>(zAf<|zAb<|zAn 1<|S_i j<|S_g 1 ?_))
   ·have hb:((fun x=>!(has (M (ss.getD z 0)) x)) (S.getD j d0))=true:=by first|assumption|(simp only[bF,decide_eq_false_iff_not];assumption)
    rw[if_pos hb] at yD;refine⟨(i+1,j+1,S.set i (S.getD j d0)),⟨by omega,by omega,by simpa using hS,?_,fun r qR=>?_⟩,by simp only;omega,by kernel_rfl,by kernel_rfl⟩
    ·rw[yD,<- ht,zHD (by omega)]
    ·rw[zKs (by omega)];exact qL r (by omega)
   ·have hb:((fun x=>!(has (M (ss.getD z 0)) x)) (S.getD j d0))=false:=by first|assumption|(simp only[bI,decide_eq_true_eq];assumption)
    rw[if_neg (fun h=>Bool.noConfusion (hb.symm.trans h))] at yD;exact rnd (i,j+1,S) ⟨by omega,by omega,hS,by rw[yD,ht],fun r qR=>qL r (by omega)⟩ (by simp only;omega)
  ·refine zAc<|zAl 2<|S_a [(0,.n S.length)] (ap (lnS prV S) an)<|S_g 1<|zAu ((j:Int)<(S.length:Int)) (by omega)<|zAq 0<|zAl 2<|S_a [(3,.ob),(0,.yes),(0,.yes),(0,.v (bor 0 [] 2 i (S.length-i)))] (ap ((by exact zAQ (by simp only[bf,zzLn,zAJ]<;>omega)):i.ble (map prV S).length=true)<|ap ((by exact zAQ (by simp only[bf,zzLn,zAJ]<;>omega)):(map prV S).length.ble (map prV S).length=true)<|ap ((by simp<;>omega):(i.beq 0||i.blt (map prV S).length)=true)<|ap ((by simp):bor 0 [] 2 (0+i) ((map prV S).length-i)=bor 0 [] 2 i (S.length-i)) an)<|zOh (g:=prV) (fun q=>q) 0 2 i (S.length-i) S ((0,0)) (by first|omega|(simp<;>omega)) ⟨rfl,rfl⟩ (fun _=>(by first|exact zFK|exact⟨rfl,rfl,rfl,rfl,bi _,rfl⟩)) zOd.nil (zAR<|zAl 2<|S_a [(4,.yes)] (ap ((by exact zAQ (by simp<;>omega)):i.ble (map prV (take i S++replicate (S.length-i) (0,0)++drop (i+(S.length-i)) S)).length=true) an)<|S_g 1<|zAk<|E_a [(1,.yes),(1,.v (own 2 (map prV (take i (take i S++replicate (S.length-i) (0,0)++drop (i+(S.length-i)) S)))))] (ap ((by exact zAQ (by simp<;>omega)):(0+((i:Int).toNat-0)).ble (map prV (take i S++replicate (S.length-i) (0,0)++drop (i+(S.length-i)) S)).length=true)<|ap ((by simp):own 2 (take i (drop 0 (map prV (take i S++replicate (S.length-i) (0,0)++drop (i+(S.length-i)) S))))=own 2 (map prV (take i (take i S++replicate (S.length-i) (0,0)++drop (i+(S.length-i)) S)))) an) (own 2 (map prV (take i (take i S++replicate (S.length-i) (0,0)++drop (i+(S.length-i)) S)))) [] ?_ rfl)
   rw[bp (fx jN)] at ht;rw[<- ht,cK,dz (by rw[bZ];omega),im,iY]
abbrev zGL(la:Int)(M:Int->LP)(ss:LI):List PV:=[.addr 50000000 [] 0 0 none,.addr 50000001 [] 0 0 none,.ref (.sl (ss.map fun s=>prV (la,s))),.ref (.map (ss.map (zCa la M))),.addr 50000002 [] 0 0 none]
abbrev zMs(la:Int)(M:Int->LP)(ss:LI)(f:Bool)(b:LP):List PV :=
 [.box (.bool f),.box (.own 2 (b.map prV)),.box (.func 187 [] (zGL la M ss))]
def zFh(M:Int->LP)(c g:Int×Int):Bool:=has (M c.2) g
abbrev zFR(la:Int)(ss:LI):LP:=ss.map fun s=>(la,s)
theorem f187(la:Int)(M:Int->LP)(ss:LI)(hn:ss.Nodup)(hM:∀ s,(M s).length<=80)(uu:ss.length<=6):∀ (k:Nat) (ch left:LP) (f:Bool) (b:LP),left.length<k->left.length<=80->ch.length+left.length<=200->b.length<=200 ->
  zCC Tryz.prog zHk 187 (.sl (ch.map prV) :: .sl (left.map prV)::zGL la M ss) (zMs la M ss f b) (.tup []) (zMs la M ss (chs (zFR la ss) (zFh M) k ch left (f,b)).1 (chs (zFR la ss) (zFh M) k ch left (f,b)).2):=by
 intro k
 induction k with
 |zero=>intro ch left f b h;exact absurd h (bH _)
 | succ k ih =>
  intro ch left f b hk wD yO yD;unfold zMs;refine zAe Tryz.f187 ?_;by_cases uE:(f&&decide (b.length<=ch.length))=true
  ·rw[zVu _ _ uE];rw[bb,decide_eq_true_eq] at uE;obtain⟨rfl,hZ⟩:=uE;clear ih;refine zAc<|zAl 3<|S_a [(0,.n ch.length)] (ap (lnS prV ch) an)<|S_a [(1,.v (bor 50000001 [(0,0)] 2 0 b.length))] (ap ((by simp):bor 50000001 [(0,0)] 2 0 (map prV b).length=bor 50000001 [(0,0)] 2 0 b.length) an)<|S_g 3<|zAs ((ch.length:Int)>=(b.length:Int)) (by omega)<|zAk E_0
  ·refine zTo (fun(_:Bool)=>True) (fun(x:Bool)=>[(18,.bool x)]) [] ?_ fun x _=>?_
   ·clear ih;cases f
    ·refine zAh 8<|zAD<|zAf ?_
     exact⟨false,trivial,by kernel_rfl,by kernel_rfl⟩
    ·have hZ:¬ b.length<=ch.length:=by simpa using uE
     refine zAl 3<|S_a [(0,.n ch.length)] (ap (lnS prV ch) an)<|S_a [(1,.v (bor 50000001 [(0,0)] 2 0 b.length))] (ap ((by simp):bor 50000001 [(0,0)] 2 0 (map prV b).length=bor 50000001 [(0,0)] 2 0 b.length) an)<|S_g 3<|zAu ((ch.length:Int)>=(b.length:Int)) (by omega)<|zAf ?_
     exact⟨decide ((ch.length:Int)>=b.length),trivial,by kernel_rfl,by kernel_rfl⟩
   cases left with
   |nil=>
    rw[zSg _ _ uE];clear ih uE;refine zAc<|zAl 1<|zAn 1<|S_g 1<|zBD<|zAl 1<|S_a [(6,.ret (own 2 (map prV ch)) [])] (ap (f61 ch (by omega)) an)<|S_g 2<|zAk E_0
   | cons g rest =>
    rw[zP3 _ _ uE];generalize hL:g::rest=lf at *;have hg:g=lf.getD 0 default:=by rw[<- hL];rfl
    have hlr:lf.length=rest.length+1:=by rw[<- hL];rfl
    refine zAc<|zAl 1<|S_a [(0,.n lf.length)] (ap (lnS prV lf) an)<|S_g 1<|zAu ((lf.length:Int)=0) (by omega)<|zAf<|zAl 1<|S_a [(0,.n ss.length)] (ap (lnS (fun s=>prV (la,s)) ss) an)<|S_g 1<|zAd 0 ?_
    refine zAo (fun(i,s)=>i<=ss.length/\s=((zFR la ss).take i).foldl (chF (zFR la ss) (zFh M) k ch g rest) (f,b)) (fun((i:Nat),(s:Bool×LP))=>[(26,I (i:Nat)),(50000000,.box (.bool s.1)),(50000001,.box (.own 2 (s.2.map prV)))]) (fun(i,_)=>ss.length-i) ((0:Nat),(f,b)) ⟨bG _,rfl⟩ fun(i,s) ⟨hi,hs⟩=>?_;have jE:s.2.length<=200:=by rw[hs];exact zTw _ _ (by rw[hL];exact yO) _ _ yD
    by_cases yB:i<ss.length
    ·obtain⟨yM,jP⟩:=zOA (la:=la) (M:=M) hn yB;have yF:((zFR la ss).take (i+1)).foldl (chF (zFR la ss) (zFh M) k ch g rest) (f,b)=chF (zFR la ss) (zFh M) k ch g rest s (la,ss.getD i 0):=by
      have kS:i<(zFR la ss).length:=by simpa using yB
      rw[zBs (d:=d0) kS,cv,<- hs,zAp kS];simp only[zFR,dB,bY,cB,zAp yB]
     have hMl:=hM (ss.getD i 0);have ct:=f81 (M (ss.getD i 0)) g (by omega);clear hs;by_cases hc:has (M (ss.getD i 0)) g=true
     ·have wO:zFh M (la,ss.getD i 0) g=true:=hc;have wQ:(lf.filter fun x=>!zFh M (la,ss.getD i 0) x).length<=rest.length:=by
       rw[<- hL,b4 (by rw[wO];simp)];exact bJ _ _
      have ihc:=ih (ch++[(la,ss.getD i 0)]) (lf.filter fun x=>!zFh M (la,ss.getD i 0) x) s.1 s.2 (by omega) (by omega) (by rw[bt,bX];omega) jE;rw[chF,if_pos wO,hL] at yF;have kM:(chs (zFR la ss) (zFh M) k (ch++[(la,ss.getD i 0)]) (lf.filter fun x=>!zFh M (la,ss.getD i 0) x) (s.1,s.2)).2.length<=200:=zJT _ _ k _ _ _ 200 jE (by rw[bt,bX];omega);rw[show(s.1,s.2)=s from rfl] at ihc kM;generalize chs (zFR la ss) (zFh M) k (ch++[(la,ss.getD i 0)]) (lf.filter fun x=>!zFh M (la,ss.getD i 0) x) s=s2 at *;have hfe:(lf.filter fun x=>!zFh M (la,ss.getD i 0) x)=lf.filter fun x=>!(has (M (ss.getD i 0)) x):=rfl;rw[hfe] at ihc wQ;have df:=f122_3 la M ss hn hM i yB lf (by omega);rw[hc,hg] at ct;generalize (lf.filter fun x=>!(has (M (ss.getD i 0)) x))=L at *;unfold zMs at ihc;clear ih yD uE;refine zAh 1<|zAc<|zAs ((i:Int)<(ss.length:Int)) (by omega)<|zAf<|zAc<|zAd 1<|zAc<|zAb<|S_a [(2,.v (prV (la,ss.getD i 0)))] (ap (zBi (0) (by omega):(map (fun s=>prV (la,s)) ss)[i]? = some (prV (la,ss.getD i 0))) an)<|S_g 3<|zAl 2<|S_a [(2,.ix (some i)),(0,.v (prs (M (ss.getD i 0))))] (ap yM<|ap (jP:zEP (map (zCa la M) ss) i=some (prs (M (ss.getD i 0)))) an)<|zAn 1<|S_a [(2,.v (prV (lf.getD 0 d0)))] (ap (zBi d0 (by omega):(map prV lf)[0]? = some (prV (lf.getD 0 d0))) an)<|zAn 1<|S_a [(8,.ret (bool true) [])] (ap ct an)<|zAR<|zBD<|zAb<|zAn 2<|S_a [(6,.ret (own 2 (map prV ch)) [])] (ap (f61 ch (by omega)) an)<|zAn 2<|S_a [(4,.ob),(0,.ob),(0,.yes),(2,.v (own 2 (map prV (ch++[(la,ss.getD i 0)]))))] (ap (blz (map prV ch))<|ap ((by exact zAQ (by simp only[bf,zzLn,zAJ]<;>omega)):((map prV ch).length + [prV (la,ss.getD i 0)].length).ble zAJ=true)<|ap ((by exact zA7 (by simp<;>omega)):(0+(map prV ch).length).beq (map prV ch).length=true)<|ap ((zAK (zBH (by kernel_rfl))):own 2 (map prV ch++[prV (la,ss.getD i 0)])=own 2 (map prV (ch++[(la,ss.getD i 0)]))) an)<|zAn 1<|S_a [(6,.ret (own 2 (map prV lf)) [])] (ap (f123 lf (by omega)) an)<|zAn 1<|S_a [(3,.ob),(1,.v (own 2 (map prV lf))),(10,.ret (own 2 (map prV L)) []),(1,.yes)] (ap ((by exact zAQ (by simp only[bf,zzLn,zAJ]<;>omega)):(map prV lf).length.ble (map prV lf).length=true)<|ap ((zAK zAL):own 2 (take (map prV lf).length (drop 0 (map prV lf)))=own 2 (map prV lf))<|ap df<|ap ((by exact zBf _):(own 2 (map prV L)).free=true) an)<|S_a [(3,.ob),(0,.v (prs (ch++[(la,ss.getD i 0)]))),(1,.ob),(0,.v (prs L)),(4,.ret (tup []) ([(bool s2.fst).box,(own 2 (map prV s2.snd)).box,(func 187 [] (zGL la M ss)).box])),(2,.no),(1,.envv ([(0,prs ch),(1,prs lf),(2,addr 50000000 [] 0 0 none),(3,addr 50000001 [] 0 0 none),(4,(sl (map (fun s=>prV (la,s)) ss)).ref),(5,(PV.map (map (zCa la M) ss)).ref),(6,addr 50000002 [] 0 0 none),(10,(prV (la,ss.getD i 0)).box),(18,bool x),(21,bool ((lf.length:Int)==0)),(24,sl (map (fun s=>prV (la,s)) ss)),(25,I (ss.length:Int)),(26,I (i:Int)),(27,bool (decide ((i:Int)<(ss.length:Int)))),(36,bool true),(37,func 187 [] [addr 50000000 [] 0 0 none,addr 50000001 [] 0 0 none,(sl (map (fun s=>prV (la,s)) ss)).ref,(PV.map (map (zCa la M) ss)).ref,addr 50000002 [] 0 0 none]),(38,prs ch),(39,bad),(40,prV (la,ss.getD i 0)),(41,bad),(42,prs (ch++[(la,ss.getD i 0)])),(43,prs lf),(44,bad),(45,func 188 [] [(PV.map (map (zCa la M) ss)).ref,addr 10 [] 0 0 (some 2)]),(46,own 2 (map prV L)),(50000000,(bool s.fst).box),(50000001,(own 2 (map prV s.snd)).box),(50000002,(func 187 [] [addr 50000000 [] 0 0 none,addr 50000001 [] 0 0 none,(sl (map (fun s=>prV (la,s)) ss)).ref,(PV.map (map (zCa la M) ss)).ref,addr 50000002 [] 0 0 none]).box)]) (prs (ch++[(la,ss.getD i 0)]))),(2,.envv ([(0,prs ch),(1,prs lf),(2,addr 50000000 [] 0 0 none),(3,addr 50000001 [] 0 0 none),(4,(sl (map (fun s=>prV (la,s)) ss)).ref),(5,(PV.map (map (zCa la M) ss)).ref),(6,addr 50000002 [] 0 0 none),(10,(prV (la,ss.getD i 0)).box),(18,bool x),(21,bool ((lf.length:Int)==0)),(24,sl (map (fun s=>prV (la,s)) ss)),(25,I (ss.length:Int)),(26,I (i:Int)),(27,bool (decide ((i:Int)<(ss.length:Int)))),(36,bool true),(37,func 187 [] [addr 50000000 [] 0 0 none,addr 50000001 [] 0 0 none,(sl (map (fun s=>prV (la,s)) ss)).ref,(PV.map (map (zCa la M) ss)).ref,addr 50000002 [] 0 0 none]),(38,prs ch),(39,bad),(40,prV (la,ss.getD i 0)),(41,bad),(42,prs (ch++[(la,ss.getD i 0)])),(43,prs lf),(44,bad),(45,func 188 [] [(PV.map (map (zCa la M) ss)).ref,addr 10 [] 0 0 (some 2)]),(46,prs L),(50000000,(bool s.fst).box),(50000001,(own 2 (map prV s.snd)).box),(50000002,(func 187 [] [addr 50000000 [] 0 0 none,addr 50000001 [] 0 0 none,(sl (map (fun s=>prV (la,s)) ss)).ref,(PV.map (map (zCa la M) ss)).ref,addr 50000002 [] 0 0 none]).box)]) (prs L)),(5,.ret (tup []) ([(bool s2.fst).box,(own 2 (map prV s2.snd)).box,(func 187 [] (zGL la M ss)).box]))] (ap (blz (map prV (ch++[(la,ss.getD i 0)])))<|ap (frT prV (ch++[(la,ss.getD i 0)]))<|ap (blz (map prV L))<|ap (frT prV L)<|ap ihc<|ap ((by simp[PV.free,zBf,zDu]):zDu [(bool s2.fst).box,(own 2 (map prV s2.snd)).box,(func 187 [] (zGL la M ss)).box]=false)<|ap (And.intro (fZ (by kernel_rfl:Env.frz [(0,prs ch),(1,prs lf),(2,addr 50000000 [] 0 0 none),(3,addr 50000001 [] 0 0 none),(4,(sl (map (fun s=>prV (la,s)) ss)).ref),(5,(PV.map (map (zCa la M) ss)).ref),(6,addr 50000002 [] 0 0 none),(10,(prV (la,ss.getD i 0)).box),(18,bool x),(21,bool ((lf.length:Int)==0)),(24,sl (map (fun s=>prV (la,s)) ss)),(25,I (ss.length:Int)),(26,I (i:Int)),(27,bool (decide ((i:Int)<(ss.length:Int)))),(36,bool true),(37,func 187 [] [addr 50000000 [] 0 0 none,addr 50000001 [] 0 0 none,(sl (map (fun s=>prV (la,s)) ss)).ref,(PV.map (map (zCa la M) ss)).ref,addr 50000002 [] 0 0 none]),(38,prs ch),(39,bad),(40,prV (la,ss.getD i 0)),(41,bad),(42,own 2 (map prV (ch++[(la,ss.getD i 0)]))),(43,prs lf),(44,bad),(45,func 188 [] [(PV.map (map (zCa la M) ss)).ref,addr 10 [] 0 0 (some 2)]),(46,own 2 (map prV L)),(50000000,(bool s.fst).box),(50000001,(own 2 (map prV s.snd)).box),(50000002,(func 187 [] [addr 50000000 [] 0 0 none,addr 50000001 [] 0 0 none,(sl (map (fun s=>prV (la,s)) ss)).ref,(PV.map (map (zCa la M) ss)).ref,addr 50000002 [] 0 0 none]).box)] 42 []=some [(0,prs ch),(1,prs lf),(2,addr 50000000 [] 0 0 none),(3,addr 50000001 [] 0 0 none),(4,(sl (map (fun s=>prV (la,s)) ss)).ref),(5,(PV.map (map (zCa la M) ss)).ref),(6,addr 50000002 [] 0 0 none),(10,(prV (la,ss.getD i 0)).box),(18,bool x),(21,bool ((lf.length:Int)==0)),(24,sl (map (fun s=>prV (la,s)) ss)),(25,I (ss.length:Int)),(26,I (i:Int)),(27,bool (decide ((i:Int)<(ss.length:Int)))),(36,bool true),(37,func 187 [] [addr 50000000 [] 0 0 none,addr 50000001 [] 0 0 none,(sl (map (fun s=>prV (la,s)) ss)).ref,(PV.map (map (zCa la M) ss)).ref,addr 50000002 [] 0 0 none]),(38,prs ch),(39,bad),(40,prV (la,ss.getD i 0)),(41,bad),(42,sl (zAv (map prV (ch++[(la,ss.getD i 0)])))),(43,prs lf),(44,bad),(45,func 188 [] [(PV.map (map (zCa la M) ss)).ref,addr 10 [] 0 0 (some 2)]),(46,own 2 (map prV L)),(50000000,(bool s.fst).box),(50000001,(own 2 (map prV s.snd)).box),(50000002,(func 187 [] [addr 50000000 [] 0 0 none,addr 50000001 [] 0 0 none,(sl (map (fun s=>prV (la,s)) ss)).ref,(PV.map (map (zCa la M) ss)).ref,addr 50000002 [] 0 0 none]).box)]) ((by simp only[show zAv (map prV (ch++[(la,ss.getD i 0)]))=map prV (ch++[(la,ss.getD i 0)]) from(by first|exact zAz _|exact zAE _|exact zAB _|exact zA3 (zAE _)|exact zA3 (zAB _)|exact zCH (by simp[zBN]) (zAz _))]):some [(0,prs ch),(1,prs lf),(2,addr 50000000 [] 0 0 none),(3,addr 50000001 [] 0 0 none),(4,(sl (map (fun s=>prV (la,s)) ss)).ref),(5,(PV.map (map (zCa la M) ss)).ref),(6,addr 50000002 [] 0 0 none),(10,(prV (la,ss.getD i 0)).box),(18,bool x),(21,bool ((lf.length:Int)==0)),(24,sl (map (fun s=>prV (la,s)) ss)),(25,I (ss.length:Int)),(26,I (i:Int)),(27,bool (decide ((i:Int)<(ss.length:Int)))),(36,bool true),(37,func 187 [] [addr 50000000 [] 0 0 none,addr 50000001 [] 0 0 none,(sl (map (fun s=>prV (la,s)) ss)).ref,(PV.map (map (zCa la M) ss)).ref,addr 50000002 [] 0 0 none]),(38,prs ch),(39,bad),(40,prV (la,ss.getD i 0)),(41,bad),(42,sl (zAv (map prV (ch++[(la,ss.getD i 0)])))),(43,prs lf),(44,bad),(45,func 188 [] [(PV.map (map (zCa la M) ss)).ref,addr 10 [] 0 0 (some 2)]),(46,own 2 (map prV L)),(50000000,(bool s.fst).box),(50000001,(own 2 (map prV s.snd)).box),(50000002,(func 187 [] [addr 50000000 [] 0 0 none,addr 50000001 [] 0 0 none,(sl (map (fun s=>prV (la,s)) ss)).ref,(PV.map (map (zCa la M) ss)).ref,addr 50000002 [] 0 0 none]).box)]=some [(0,prs ch),(1,prs lf),(2,addr 50000000 [] 0 0 none),(3,addr 50000001 [] 0 0 none),(4,(sl (map (fun s=>prV (la,s)) ss)).ref),(5,(PV.map (map (zCa la M) ss)).ref),(6,addr 50000002 [] 0 0 none),(10,(prV (la,ss.getD i 0)).box),(18,bool x),(21,bool ((lf.length:Int)==0)),(24,sl (map (fun s=>prV (la,s)) ss)),(25,I (ss.length:Int)),(26,I (i:Int)),(27,bool (decide ((i:Int)<(ss.length:Int)))),(36,bool true),(37,func 187 [] [addr 50000000 [] 0 0 none,addr 50000001 [] 0 0 none,(sl (map (fun s=>prV (la,s)) ss)).ref,(PV.map (map (zCa la M) ss)).ref,addr 50000002 [] 0 0 none]),(38,prs ch),(39,bad),(40,prV (la,ss.getD i 0)),(41,bad),(42,prs (ch++[(la,ss.getD i 0)])),(43,prs lf),(44,bad),(45,func 188 [] [(PV.map (map (zCa la M) ss)).ref,addr 10 [] 0 0 (some 2)]),(46,own 2 (map prV L)),(50000000,(bool s.fst).box),(50000001,(own 2 (map prV s.snd)).box),(50000002,(func 187 [] [addr 50000000 [] 0 0 none,addr 50000001 [] 0 0 none,(sl (map (fun s=>prV (la,s)) ss)).ref,(PV.map (map (zCa la M) ss)).ref,addr 50000002 [] 0 0 none]).box)])) (zHa (by first|exact zAz _|exact zAE _|exact zAB _):PV.mapW (inl 42 [] (own 2 (map prV (ch++[(la,ss.getD i 0)])))) (bor 42 [] 2 0 (map prV (ch++[(la,ss.getD i 0)])).length)=prs (ch++[(la,ss.getD i 0)])))<|ap (And.intro (fZ (by kernel_rfl:Env.frz [(0,prs ch),(1,prs lf),(2,addr 50000000 [] 0 0 none),(3,addr 50000001 [] 0 0 none),(4,(sl (map (fun s=>prV (la,s)) ss)).ref),(5,(PV.map (map (zCa la M) ss)).ref),(6,addr 50000002 [] 0 0 none),(10,(prV (la,ss.getD i 0)).box),(18,bool x),(21,bool ((lf.length:Int)==0)),(24,sl (map (fun s=>prV (la,s)) ss)),(25,I (ss.length:Int)),(26,I (i:Int)),(27,bool (decide ((i:Int)<(ss.length:Int)))),(36,bool true),(37,func 187 [] [addr 50000000 [] 0 0 none,addr 50000001 [] 0 0 none,(sl (map (fun s=>prV (la,s)) ss)).ref,(PV.map (map (zCa la M) ss)).ref,addr 50000002 [] 0 0 none]),(38,prs ch),(39,bad),(40,prV (la,ss.getD i 0)),(41,bad),(42,prs (ch++[(la,ss.getD i 0)])),(43,prs lf),(44,bad),(45,func 188 [] [(PV.map (map (zCa la M) ss)).ref,addr 10 [] 0 0 (some 2)]),(46,own 2 (map prV L)),(50000000,(bool s.fst).box),(50000001,(own 2 (map prV s.snd)).box),(50000002,(func 187 [] [addr 50000000 [] 0 0 none,addr 50000001 [] 0 0 none,(sl (map (fun s=>prV (la,s)) ss)).ref,(PV.map (map (zCa la M) ss)).ref,addr 50000002 [] 0 0 none]).box)] 46 []=some [(0,prs ch),(1,prs lf),(2,addr 50000000 [] 0 0 none),(3,addr 50000001 [] 0 0 none),(4,(sl (map (fun s=>prV (la,s)) ss)).ref),(5,(PV.map (map (zCa la M) ss)).ref),(6,addr 50000002 [] 0 0 none),(10,(prV (la,ss.getD i 0)).box),(18,bool x),(21,bool ((lf.length:Int)==0)),(24,sl (map (fun s=>prV (la,s)) ss)),(25,I (ss.length:Int)),(26,I (i:Int)),(27,bool (decide ((i:Int)<(ss.length:Int)))),(36,bool true),(37,func 187 [] [addr 50000000 [] 0 0 none,addr 50000001 [] 0 0 none,(sl (map (fun s=>prV (la,s)) ss)).ref,(PV.map (map (zCa la M) ss)).ref,addr 50000002 [] 0 0 none]),(38,prs ch),(39,bad),(40,prV (la,ss.getD i 0)),(41,bad),(42,prs (ch++[(la,ss.getD i 0)])),(43,prs lf),(44,bad),(45,func 188 [] [(PV.map (map (zCa la M) ss)).ref,addr 10 [] 0 0 (some 2)]),(46,sl (zAv (map prV L))),(50000000,(bool s.fst).box),(50000001,(own 2 (map prV s.snd)).box),(50000002,(func 187 [] [addr 50000000 [] 0 0 none,addr 50000001 [] 0 0 none,(sl (map (fun s=>prV (la,s)) ss)).ref,(PV.map (map (zCa la M) ss)).ref,addr 50000002 [] 0 0 none]).box)]) ((by simp only[show zAv (map prV L)=map prV L from(by first|exact zAz _|exact zAE _|exact zAB _|exact zA3 (zAE _)|exact zA3 (zAB _)|exact zCH (by simp[zBN]) (zAz _))]):some [(0,prs ch),(1,prs lf),(2,addr 50000000 [] 0 0 none),(3,addr 50000001 [] 0 0 none),(4,(sl (map (fun s=>prV (la,s)) ss)).ref),(5,(PV.map (map (zCa la M) ss)).ref),(6,addr 50000002 [] 0 0 none),(10,(prV (la,ss.getD i 0)).box),(18,bool x),(21,bool ((lf.length:Int)==0)),(24,sl (map (fun s=>prV (la,s)) ss)),(25,I (ss.length:Int)),(26,I (i:Int)),(27,bool (decide ((i:Int)<(ss.length:Int)))),(36,bool true),(37,func 187 [] [addr 50000000 [] 0 0 none,addr 50000001 [] 0 0 none,(sl (map (fun s=>prV (la,s)) ss)).ref,(PV.map (map (zCa la M) ss)).ref,addr 50000002 [] 0 0 none]),(38,prs ch),(39,bad),(40,prV (la,ss.getD i 0)),(41,bad),(42,prs (ch++[(la,ss.getD i 0)])),(43,prs lf),(44,bad),(45,func 188 [] [(PV.map (map (zCa la M) ss)).ref,addr 10 [] 0 0 (some 2)]),(46,sl (zAv (map prV L))),(50000000,(bool s.fst).box),(50000001,(own 2 (map prV s.snd)).box),(50000002,(func 187 [] [addr 50000000 [] 0 0 none,addr 50000001 [] 0 0 none,(sl (map (fun s=>prV (la,s)) ss)).ref,(PV.map (map (zCa la M) ss)).ref,addr 50000002 [] 0 0 none]).box)]=some [(0,prs ch),(1,prs lf),(2,addr 50000000 [] 0 0 none),(3,addr 50000001 [] 0 0 none),(4,(sl (map (fun s=>prV (la,s)) ss)).ref),(5,(PV.map (map (zCa la M) ss)).ref),(6,addr 50000002 [] 0 0 none),(10,(prV (la,ss.getD i 0)).box),(18,bool x),(21,bool ((lf.length:Int)==0)),(24,sl (map (fun s=>prV (la,s)) ss)),(25,I (ss.length:Int)),(26,I (i:Int)),(27,bool (decide ((i:Int)<(ss.length:Int)))),(36,bool true),(37,func 187 [] [addr 50000000 [] 0 0 none,addr 50000001 [] 0 0 none,(sl (map (fun s=>prV (la,s)) ss)).ref,(PV.map (map (zCa la M) ss)).ref,addr 50000002 [] 0 0 none]),(38,prs ch),(39,bad),(40,prV (la,ss.getD i 0)),(41,bad),(42,prs (ch++[(la,ss.getD i 0)])),(43,prs lf),(44,bad),(45,func 188 [] [(PV.map (map (zCa la M) ss)).ref,addr 10 [] 0 0 (some 2)]),(46,prs L),(50000000,(bool s.fst).box),(50000001,(own 2 (map prV s.snd)).box),(50000002,(func 187 [] [addr 50000000 [] 0 0 none,addr 50000001 [] 0 0 none,(sl (map (fun s=>prV (la,s)) ss)).ref,(PV.map (map (zCa la M) ss)).ref,addr 50000002 [] 0 0 none]).box)])) (zHa (by first|exact zAz _|exact zAE _|exact zAB _):PV.mapW (inl 46 [] (own 2 (map prV L))) (bor 46 [] 2 0 (map prV L).length)=prs L))<|ap ihc an)<|zAR<|zAb<|S_i i<|S_g 1 ?_
      exact rnd (i+1,s2) ⟨by omega,yF.symm⟩ (by simp only;omega)
     ·rw[ce] at hc;rw[chF,if_neg (by rw[show zFh M (la,ss.getD i 0) g=false from hc];simp)] at yF;rw[hc,hg] at ct;clear ih yD uE;refine zAh 1<|zAc<|zAs ((i:Int)<(ss.length:Int)) (by omega)<|zAf<|zAc<|zAd 1<|zAc<|zAb<|S_a [(2,.v (prV (la,ss.getD i 0)))] (ap (zBi (0) (by omega):(map (fun s=>prV (la,s)) ss)[i]? = some (prV (la,ss.getD i 0))) an)<|S_g 3<|zAl 2<|S_a [(2,.ix (some i)),(0,.v (prs (M (ss.getD i 0))))] (ap yM<|ap (jP:zEP (map (zCa la M) ss) i=some (prs (M (ss.getD i 0)))) an)<|zAn 1<|S_a [(2,.v (prV (lf.getD 0 d0)))] (ap (zBi d0 (by omega):(map prV lf)[0]? = some (prV (lf.getD 0 d0))) an)<|zAn 1<|S_a [(8,.ret (bool false) [])] (ap ct an)<|zAR<|zAD<|zAf<|zAb<|S_i i<|S_g 1 ?_
      exact rnd (i+1,s) ⟨by omega,yF.symm⟩ (by simp only;omega)
    ·rw[bp (by simp;omega)] at hs;rw[<- hs];clear ih hs;refine zAh 1<|zAc<|zAu ((i:Int)<(ss.length:Int)) (by omega)<|zAq 0 E_0
end
end Go.Eng
set_option maxRecDepth 10000
set_option maxHeartbeats 4000000
namespace Go.Eng
open Go Go.Proofs
section
variable [Yo]
theorem f61a:FG 61 [.nils 0] (.own 2 []):=zIK (fn:=Tryz.f61)
theorem f187a(la:Int)(M:Int->LP)(ss:LI)(hn:ss.Nodup)(hM:∀ s,(M s).length<=80)(uu:ss.length<=6)(k:Nat)(left:LP)(hk:left.length<k+1)(wD:left.length<=80) :
  zCC Tryz.prog zHk 187 (.nils 0 :: .sl (left.map prV)::zGL la M ss) (zMs la M ss false []) (.tup []) (zMs la M ss (chs (zFR la ss) (zFh M) (k+1) [] left (false,[])).1 (chs (zFR la ss) (zFh M) (k+1) [] left (false,[])).2):=by
 have yO:([]:LP).length+left.length<=200:=by simp only[b8];omega
 have yD:([]:LP).length<=200:=by simp
 unfold zMs;refine zAe Tryz.f187 ?_
 ·cases left with
  |nil=>
   rw[zSg _ _ (by simp)];refine zAc<|zAh 8<|zAD<|zAf<|zAc<|zAl 1<|zAn 1<|S_g 1<|zBD<|zAl 1<|S_a [(6,.ret (own 2 []) [])] (ap f61a an)<|S_g 2<|zAk E_0
  | cons g rest =>
   rw[zP3 _ _ (by simp)];generalize hL:g::rest=lf at *;have hg:g=lf.getD 0 default:=by rw[<- hL];rfl
   have hlr:lf.length=rest.length+1:=by rw[<- hL];rfl
   refine zAc<|zAh 8<|zAD<|zAf<|zAc<|zAl 1<|S_a [(0,.n lf.length)] (ap (lnS prV lf) an)<|S_g 1<|zAu ((lf.length:Int)=0) (by omega)<|zAf<|zAl 1<|S_a [(0,.n ss.length)] (ap (lnS (fun s=>prV (la,s)) ss) an)<|S_g 1<|zAd 0 ?_
   refine zAo (fun(i,s)=>i<=ss.length/\s=((zFR la ss).take i).foldl (chF (zFR la ss) (zFh M) k [] g rest) (false,[])) (fun((i:Nat),(s:Bool×LP))=>[(26,I (i:Nat)),(50000000,.box (.bool s.1)),(50000001,.box (.own 2 (s.2.map prV)))]) (fun(i,_)=>ss.length-i) ((0:Nat),(false,[])) ⟨bG _,rfl⟩ fun(i,s) ⟨hi,hs⟩=>?_;have jE:s.2.length<=200:=by rw[hs];exact zTw _ _ (by rw[hL];exact yO) _ _ yD
   by_cases yB:i<ss.length
   ·obtain⟨yM,jP⟩:=zOA (la:=la) (M:=M) hn yB;have yF:((zFR la ss).take (i+1)).foldl (chF (zFR la ss) (zFh M) k [] g rest) (false,[])=chF (zFR la ss) (zFh M) k [] g rest s (la,ss.getD i 0):=by
     have kS:i<(zFR la ss).length:=by simpa using yB
     rw[zBs (d:=d0) kS,cv,<- hs,zAp kS];simp only[zFR,dB,bY,cB,zAp yB]
    have hMl:=hM (ss.getD i 0);have ct:=f81 (M (ss.getD i 0)) g (by omega);clear hs;by_cases hc:has (M (ss.getD i 0)) g=true
    ·have wO:zFh M (la,ss.getD i 0) g=true:=hc;have wQ:(lf.filter fun x=>!zFh M (la,ss.getD i 0) x).length<=rest.length:=by
      rw[<- hL,b4 (by rw[wO];simp)];exact bJ _ _
     have ihc:=f187 la M ss hn hM uu k ([]++[(la,ss.getD i 0)]) (lf.filter fun x=>!zFh M (la,ss.getD i 0) x) s.1 s.2 (by omega) (by omega) (by rw[bt,bX];omega) jE;rw[chF,if_pos wO,hL] at yF;have kM:(chs (zFR la ss) (zFh M) k ([]++[(la,ss.getD i 0)]) (lf.filter fun x=>!zFh M (la,ss.getD i 0) x) (s.1,s.2)).2.length<=200:=zJT _ _ k _ _ _ 200 jE (by rw[bt,bX];omega);rw[show(s.1,s.2)=s from rfl] at ihc kM;generalize chs (zFR la ss) (zFh M) k ([]++[(la,ss.getD i 0)]) (lf.filter fun x=>!zFh M (la,ss.getD i 0) x) s=s2 at *;have hfe:(lf.filter fun x=>!zFh M (la,ss.getD i 0) x)=lf.filter fun x=>!(has (M (ss.getD i 0)) x):=rfl;rw[hfe] at ihc wQ;have df:=f122_3 la M ss hn hM i yB lf (by omega);rw[hc,hg] at ct;generalize (lf.filter fun x=>!(has (M (ss.getD i 0)) x))=L at *;unfold zMs at ihc;clear yD;refine zAh 1<|zAc<|zAs ((i:Int)<(ss.length:Int)) (by omega)<|zAf<|zAc<|zAd 1<|zAc<|zAb<|S_a [(2,.v (prV (la,ss.getD i 0)))] (ap (zBi (0) (by omega):(map (fun s=>prV (la,s)) ss)[i]? = some (prV (la,ss.getD i 0))) an)<|S_g 3<|zAl 2<|S_a [(2,.ix (some i)),(0,.v (prs (M (ss.getD i 0))))] (ap yM<|ap (jP:zEP (map (zCa la M) ss) i=some (prs (M (ss.getD i 0)))) an)<|zAn 1<|S_a [(2,.v (prV (lf.getD 0 d0)))] (ap (zBi d0 (by omega):(map prV lf)[0]? = some (prV (lf.getD 0 d0))) an)<|zAn 1<|S_a [(8,.ret (bool true) [])] (ap ct an)<|zAR<|zBD<|zAb<|zAn 2<|S_a [(6,.ret (own 2 []) [])] (ap f61a an)<|zAn 4<|S_a [(6,.ret (own 2 (map prV lf)) [])] (ap (f123 lf (by omega)) an)<|zAn 1<|S_a [(3,.ob),(1,.v (own 2 (map prV lf))),(10,.ret (own 2 (map prV L)) []),(1,.yes)] (ap ((by exact zAQ (by simp only[bf,zzLn,zAJ]<;>omega)):(map prV lf).length.ble (map prV lf).length=true)<|ap ((zAK zAL):own 2 (take (map prV lf).length (drop 0 (map prV lf)))=own 2 (map prV lf))<|ap df<|ap ((by exact zBf _):(own 2 (map prV L)).free=true) an)<|S_a [(6,.ob),(0,.v (prs L)),(4,.ret (tup []) ([(bool s2.fst).box,(own 2 (map prV s2.snd)).box,(func 187 [] (zGL la M ss)).box])),(2,.no),(4,.envv ([(0,PV.nils 0),(1,prs lf),(2,addr 50000000 [] 0 0 none),(3,addr 50000001 [] 0 0 none),(4,(sl (map (fun s=>prV (la,s)) ss)).ref),(5,(PV.map (map (zCa la M) ss)).ref),(6,addr 50000002 [] 0 0 none),(10,(prV (la,ss.getD i 0)).box),(18,bool false),(21,bool ((lf.length:Int)==0)),(24,sl (map (fun s=>prV (la,s)) ss)),(25,I (ss.length:Int)),(26,I (i:Int)),(27,bool (decide ((i:Int)<(ss.length:Int)))),(36,bool true),(37,func 187 [] [addr 50000000 [] 0 0 none,addr 50000001 [] 0 0 none,(sl (map (fun s=>prV (la,s)) ss)).ref,(PV.map (map (zCa la M) ss)).ref,addr 50000002 [] 0 0 none]),(38,PV.nils 0),(39,bad),(40,prV (la,ss.getD i 0)),(41,bad),(42,sl [prV (la,ss.getD i 0)]),(43,prs lf),(44,bad),(45,func 188 [] [(PV.map (map (zCa la M) ss)).ref,addr 10 [] 0 0 (some 2)]),(46,prs L),(50000000,(bool s.fst).box),(50000001,(own 2 (map prV s.snd)).box),(50000002,(func 187 [] [addr 50000000 [] 0 0 none,addr 50000001 [] 0 0 none,(sl (map (fun s=>prV (la,s)) ss)).ref,(PV.map (map (zCa la M) ss)).ref,addr 50000002 [] 0 0 none]).box)]) (prs L)),(5,.ret (tup []) ([(bool s2.fst).box,(own 2 (map prV s2.snd)).box,(func 187 [] (zGL la M ss)).box]))] (ap (blz (map prV L))<|ap (frT prV L)<|ap ihc<|ap ((by simp[PV.free,zBf,zDu]):zDu [(bool s2.fst).box,(own 2 (map prV s2.snd)).box,(func 187 [] (zGL la M ss)).box]=false)<|ap (And.intro (fZ (by kernel_rfl:Env.frz [(0,PV.nils 0),(1,prs lf),(2,addr 50000000 [] 0 0 none),(3,addr 50000001 [] 0 0 none),(4,(sl (map (fun s=>prV (la,s)) ss)).ref),(5,(PV.map (map (zCa la M) ss)).ref),(6,addr 50000002 [] 0 0 none),(10,(prV (la,ss.getD i 0)).box),(18,bool false),(21,bool ((lf.length:Int)==0)),(24,sl (map (fun s=>prV (la,s)) ss)),(25,I (ss.length:Int)),(26,I (i:Int)),(27,bool (decide ((i:Int)<(ss.length:Int)))),(36,bool true),(37,func 187 [] [addr 50000000 [] 0 0 none,addr 50000001 [] 0 0 none,(sl (map (fun s=>prV (la,s)) ss)).ref,(PV.map (map (zCa la M) ss)).ref,addr 50000002 [] 0 0 none]),(38,PV.nils 0),(39,bad),(40,prV (la,ss.getD i 0)),(41,bad),(42,sl [prV (la,ss.getD i 0)]),(43,prs lf),(44,bad),(45,func 188 [] [(PV.map (map (zCa la M) ss)).ref,addr 10 [] 0 0 (some 2)]),(46,own 2 (map prV L)),(50000000,(bool s.fst).box),(50000001,(own 2 (map prV s.snd)).box),(50000002,(func 187 [] [addr 50000000 [] 0 0 none,addr 50000001 [] 0 0 none,(sl (map (fun s=>prV (la,s)) ss)).ref,(PV.map (map (zCa la M) ss)).ref,addr 50000002 [] 0 0 none]).box)] 46 []=some [(0,PV.nils 0),(1,prs lf),(2,addr 50000000 [] 0 0 none),(3,addr 50000001 [] 0 0 none),(4,(sl (map (fun s=>prV (la,s)) ss)).ref),(5,(PV.map (map (zCa la M) ss)).ref),(6,addr 50000002 [] 0 0 none),(10,(prV (la,ss.getD i 0)).box),(18,bool false),(21,bool ((lf.length:Int)==0)),(24,sl (map (fun s=>prV (la,s)) ss)),(25,I (ss.length:Int)),(26,I (i:Int)),(27,bool (decide ((i:Int)<(ss.length:Int)))),(36,bool true),(37,func 187 [] [addr 50000000 [] 0 0 none,addr 50000001 [] 0 0 none,(sl (map (fun s=>prV (la,s)) ss)).ref,(PV.map (map (zCa la M) ss)).ref,addr 50000002 [] 0 0 none]),(38,PV.nils 0),(39,bad),(40,prV (la,ss.getD i 0)),(41,bad),(42,sl [prV (la,ss.getD i 0)]),(43,prs lf),(44,bad),(45,func 188 [] [(PV.map (map (zCa la M) ss)).ref,addr 10 [] 0 0 (some 2)]),(46,sl (zAv (map prV L))),(50000000,(bool s.fst).box),(50000001,(own 2 (map prV s.snd)).box),(50000002,(func 187 [] [addr 50000000 [] 0 0 none,addr 50000001 [] 0 0 none,(sl (map (fun s=>prV (la,s)) ss)).ref,(PV.map (map (zCa la M) ss)).ref,addr 50000002 [] 0 0 none]).box)]) ((by simp only[show zAv (map prV L)=map prV L from(by first|exact zAz _|exact zAE _|exact zAB _|exact zA3 (zAE _)|exact zA3 (zAB _)|exact zCH (by simp[zBN]) (zAz _))]):some [(0,PV.nils 0),(1,prs lf),(2,addr 50000000 [] 0 0 none),(3,addr 50000001 [] 0 0 none),(4,(sl (map (fun s=>prV (la,s)) ss)).ref),(5,(PV.map (map (zCa la M) ss)).ref),(6,addr 50000002 [] 0 0 none),(10,(prV (la,ss.getD i 0)).box),(18,bool false),(21,bool ((lf.length:Int)==0)),(24,sl (map (fun s=>prV (la,s)) ss)),(25,I (ss.length:Int)),(26,I (i:Int)),(27,bool (decide ((i:Int)<(ss.length:Int)))),(36,bool true),(37,func 187 [] [addr 50000000 [] 0 0 none,addr 50000001 [] 0 0 none,(sl (map (fun s=>prV (la,s)) ss)).ref,(PV.map (map (zCa la M) ss)).ref,addr 50000002 [] 0 0 none]),(38,PV.nils 0),(39,bad),(40,prV (la,ss.getD i 0)),(41,bad),(42,sl [prV (la,ss.getD i 0)]),(43,prs lf),(44,bad),(45,func 188 [] [(PV.map (map (zCa la M) ss)).ref,addr 10 [] 0 0 (some 2)]),(46,sl (zAv (map prV L))),(50000000,(bool s.fst).box),(50000001,(own 2 (map prV s.snd)).box),(50000002,(func 187 [] [addr 50000000 [] 0 0 none,addr 50000001 [] 0 0 none,(sl (map (fun s=>prV (la,s)) ss)).ref,(PV.map (map (zCa la M) ss)).ref,addr 50000002 [] 0 0 none]).box)]=some [(0,PV.nils 0),(1,prs lf),(2,addr 50000000 [] 0 0 none),(3,addr 50000001 [] 0 0 none),(4,(sl (map (fun s=>prV (la,s)) ss)).ref),(5,(PV.map (map (zCa la M) ss)).ref),(6,addr 50000002 [] 0 0 none),(10,(prV (la,ss.getD i 0)).box),(18,bool false),(21,bool ((lf.length:Int)==0)),(24,sl (map (fun s=>prV (la,s)) ss)),(25,I (ss.length:Int)),(26,I (i:Int)),(27,bool (decide ((i:Int)<(ss.length:Int)))),(36,bool true),(37,func 187 [] [addr 50000000 [] 0 0 none,addr 50000001 [] 0 0 none,(sl (map (fun s=>prV (la,s)) ss)).ref,(PV.map (map (zCa la M) ss)).ref,addr 50000002 [] 0 0 none]),(38,PV.nils 0),(39,bad),(40,prV (la,ss.getD i 0)),(41,bad),(42,sl [prV (la,ss.getD i 0)]),(43,prs lf),(44,bad),(45,func 188 [] [(PV.map (map (zCa la M) ss)).ref,addr 10 [] 0 0 (some 2)]),(46,prs L),(50000000,(bool s.fst).box),(50000001,(own 2 (map prV s.snd)).box),(50000002,(func 187 [] [addr 50000000 [] 0 0 none,addr 50000001 [] 0 0 none,(sl (map (fun s=>prV (la,s)) ss)).ref,(PV.map (map (zCa la M) ss)).ref,addr 50000002 [] 0 0 none]).box)])) (zHa (by first|exact zAz _|exact zAE _|exact zAB _):PV.mapW (inl 46 [] (own 2 (map prV L))) (bor 46 [] 2 0 (map prV L).length)=prs L))<|ap ihc an)<|zAR<|zAb<|S_i i<|S_g 1 ?_
     exact rnd (i+1,s2) ⟨by omega,yF.symm⟩ (by simp only;omega)
    ·rw[ce] at hc;rw[chF,if_neg (by rw[show zFh M (la,ss.getD i 0) g=false from hc];simp)] at yF;rw[hc,hg] at ct;clear yD;refine zAh 1<|zAc<|zAs ((i:Int)<(ss.length:Int)) (by omega)<|zAf<|zAc<|zAd 1<|zAc<|zAb<|S_a [(2,.v (prV (la,ss.getD i 0)))] (ap (zBi (0) (by omega):(map (fun s=>prV (la,s)) ss)[i]? = some (prV (la,ss.getD i 0))) an)<|S_g 3<|zAl 2<|S_a [(2,.ix (some i)),(0,.v (prs (M (ss.getD i 0))))] (ap yM<|ap (jP:zEP (map (zCa la M) ss) i=some (prs (M (ss.getD i 0)))) an)<|zAn 1<|S_a [(2,.v (prV (lf.getD 0 d0)))] (ap (zBi d0 (by omega):(map prV lf)[0]? = some (prV (lf.getD 0 d0))) an)<|zAn 1<|S_a [(8,.ret (bool false) [])] (ap ct an)<|zAR<|zAD<|zAf<|zAb<|S_i i<|S_g 1 ?_
     exact rnd (i+1,s) ⟨by omega,yF.symm⟩ (by simp only;omega)
   ·rw[bp (by simp;omega)] at hs;rw[<- hs];clear hs;refine zAh 1<|zAc<|zAu ((i:Int)<(ss.length:Int)) (by omega)<|zAq 0 E_0
end
theorem zJ0{α:Type}(x:α)(f:α->α):∀ A:List α,(A++[x]).modify A.length f=A++[f x]
 |[]=>rfl|a::A=>congrArg (List.cons a) (zJ0 x f A)
def zOX(n:Nw)(cs:LP)(e:Nat)(G:LP)(la s:Int):LP:=zD6 n (zAM n (cs++[(la,s)]) e) G
theorem f134(n:Nw)(cs G L:LP)(e:Int)(x:Nat)(ss:LI)(ho:CrW n cs)(jh:cs.length<=16)(he:0<=e/\e<=12)(hG:∀ g∈G,(0<=g.1/\g.1<n.h)/\(0<=g.2/\g.2<n.n.length))(hGl:G.length<=80)(hL:L.length<=80)(hx:x<n.n.length)(hn:ss.Nodup)(uu:ss.length<=6)(yV:∀ s∈ss,0<=s/\s<n.s.length) :
  FG 134 [zE9 n cs,.agg [zXx n cs e G],prs L,I x,zA1 ss] (.tup [.own 2 ((chs (zFR ((zAx n).getD x 0) ss) (zFh (zOX n cs e.toNat G ((zAx n).getD x 0))) (L.length+1) [] L (false,[])).2.map prV),.bool (chs (zFR ((zAx n).getD x 0) ss) (zFh (zOX n cs e.toNat G ((zAx n).getD x 0))) (L.length+1) [] L (false,[])).1]):=by
 have hN:=ho.nw;have kN:=hN.nl;have ga:=hN.sl;have hM:∀ s,(zOX n cs e.toNat G ((zAx n).getD x 0) s).length<=80:=fun s=>bN (bJ _ _) hGl;obtain⟨lx,hlx,hlx2,_⟩:=zBX hN hx;have yg:∀ s,s∈ss->FG 173 [prV ((zAx n).getD x 0,s),.ref (zE9 n cs),.ref (prs G),.ref (I e)] (prs (zOX n cs e.toNat G ((zAx n).getD x 0) s)):=fun s hs=>by
  have:=yV s hs;exact f173 n cs G e ((zAx n).getD x 0,s) ho (by omega) (by omega) (by omega) hG ⟨⟨by simp only[hlx];omega,by simp only[hlx];omega⟩,by simp only;omega,by simp only;omega⟩
 have y8:=f187a ((zAx n).getD x 0) (zOX n cs e.toNat G ((zAx n).getD x 0)) ss hn hM uu L.length L (by omega) hL;have hla8:(zAx n).length=8:=zTB;generalize zOX n cs e.toNat G ((zAx n).getD x 0)=M at *;generalize chs (zFR ((zAx n).getD x 0) ss) (zFh M) (L.length+1) [] L (false,[])=R at *;refine zAe Tryz.f134 ?_;refine zAh 3<|zAh 3<|zAh 1<|zAc<|zAl 1<|S_a [(0,.n ss.length)] (ap (lnS I ss) an)<|S_g 1<|zAd 0 ?_
 refine zAo (fun(i,q)=>i<=ss.length/\q=ss.take i) (fun((i:Nat),(q:LI))=>[(12,.box (.omap (q.map (zCa ((zAx n).getD x 0) M)))),(13,.box (.own 2 (q.map fun s=>prV ((zAx n).getD x 0,s)))),(23,I (i:Nat))]) (fun(i,_)=>ss.length-i) ((0:Nat),([]:LI)) ⟨bG _,rfl⟩ fun(i,q) ⟨hi,hq⟩=>?_;by_cases yB:i<ss.length
 ·have jl:ss.getD i 0∈ss:=by rw[zAp yB];exact cu _
  have ja:=yg _ jl;have wA:ss.getD i 0∉q:=fun h=>by
   rw[hq] at h;obtain⟨j,hj,he⟩:=dg h;have hj2:j<i:=by simp at hj;omega
   rw[ir,zAp yB] at he;exact(dx.1 hn) j i (by omega) yB hj2 he
  have yM:=zXB (la:=(zAx n).getD x 0) (M:=M) wA;have uW:q.length=i:=by rw[hq];simp;omega
  have yF:ss.take (i+1)=q++[ss.getD i 0]:=by rw[hq];exact zBs yB
  clear yg y8 wA hq;have je:zPo (q.map (zCa ((zAx n).getD x 0) M)++[(prV ((zAx n).getD x 0,ss.getD i 0),.sl [])]) q.length=some (prV ((zAx n).getD x 0,ss.getD i 0)):=by
   unfold zPo;rw[dG (by simp),bf,iX];rfl
  have yf:(q.map (zCa ((zAx n).getD x 0) M)++[(prV ((zAx n).getD x 0,ss.getD i 0),sl [])]).modify q.length (fun _=>(prV ((zAx n).getD x 0,ss.getD i 0),zAY (prs (M (ss.getD i 0)))))=(q++[ss.getD i 0]).map (zCa ((zAx n).getD x 0) M):=by
   have hfz:zAY (prs (M (ss.getD i 0)))=prs (M (ss.getD i 0)):=rfl;rw[hfz];have e1:(q.map (zCa ((zAx n).getD x 0) M)).length=q.length:=by simp
   rw[<- e1,zJ0,cJ];rfl
  refine zAh 1<|zAc<|zAs ((i:Int)<(ss.length:Int)) (by omega)<|zAf<|zAc<|zAd 1<|zAc<|zAb<|S_a [(2,.v (I (ss.getD i 0)))] (ap (zBi (0) (by omega):(map I ss)[i]? = some (I (ss.getD i 0))) an)<|S_g 2<|zAl 4<|S_a [(2,.ob),(0,.v ((I ((zAx n).getD x 0)).ref))] (ap ((by exact zAt (by omega)):decide (x<8)=true)<|ap (zD9 (F:=zAx n) (m:=8) (j:=x) (by omega):zBO (agg (zBa (zAx n) 8)).ref (x*(fun x=>x.size) Tryz.prog.types[3]) none=some (I ((zAx n).getD x 0)).ref) an)<|S_g 5<|zAb<|zAn 2<|S_a [(1,.v (bor 13 [(0,0)] 2 0 q.length))] (ap ((by simp):bor 13 [(0,0)] 2 0 (map (fun s=>prV ((zAx n).getD x 0,s)) q).length=bor 13 [(0,0)] 2 0 q.length) an)<|zAn 2<|S_a [(4,.ob),(0,.ob),(0,.yes),(2,.v (own 2 (map (fun s=>prV ((zAx n).getD x 0,s)) (q++[ss.getD i 0]))))] (ap ((by exact zAQ (by simp only[bf,zzLn,zAJ]<;>omega)):(0+q.length).ble (map (fun s=>prV ((zAx n).getD x 0,s)) q).length=true)<|ap ((by exact zAQ (by simp only[bf,zzLn,zAJ]<;>omega)):((map (fun s=>prV ((zAx n).getD x 0,s)) q).length + [agg [I ((zAx n).getD x 0),I (ss.getD i 0)]].length).ble zAJ=true)<|ap ((by exact zA7 (by simp<;>omega)):(0+q.length).beq (map (fun s=>prV ((zAx n).getD x 0,s)) q).length=true)<|ap ((zAK (zBH (by kernel_rfl))):own 2 (map (fun s=>prV ((zAx n).getD x 0,s)) q++[agg [I ((zAx n).getD x 0),I (ss.getD i 0)]])=own 2 (map (fun s=>prV ((zAx n).getD x 0,s)) (q++[ss.getD i 0]))) an)<|zAn 3<|S_a [(9,.ret (prs (M (ss.getD i 0))) [])] (ap ja an)<|zAn 1<|S_a [(3,.ix none),(5,.v (I (q.length:Int)))] (ap yM<|ap ((by simp):I (↑(map (zCa ((zAx n).getD x 0) M) q).length:Int)=I (q.length:Int)) an)<|zAn 1<|S_a [(6,.v (prV ((zAx n).getD x 0,ss.getD i 0))),(0,.root ((omap (map (zCa ((zAx n).getD x 0) M) (q++[ss.getD i 0]))).box) true)] (ap je<|ap (zZG (es:=map (zCa ((zAx n).getD x 0) M) q++[(prV ((zAx n).getD x 0,ss.getD i 0),sl [])]) yf) an)<|zAR<|zAb<|S_i i<|S_g 1 ?_
  exact rnd (i+1,q++[ss.getD i 0]) ⟨by omega,yF.symm⟩ (by simp only;omega)
 ·have e1:i=ss.length:=by omega
  rw[e1,dp] at hq;subst hq;unfold zMs at y8;clear yg;refine zAh 1<|zAc<|zAu ((i:Int)<(q.length:Int)) (by omega)<|zSx 0 ([(0,(agg (I n.h::prs n.l::sl (map ntV n.n)::sl (map zA1 n.s)::prs cs::PV.map (map zFg (map pr2 n.l))::(zBa (zAi n) 8++zBa (zAx n) 8))).ref),(2,prs L),(3,I (x:Int)),(4,zA1 q),(6,(agg [func 173 [] [(agg (I n.h::prs n.l::sl (map ntV n.n)::sl (map zA1 n.s)::prs cs::PV.map (map zFg (map pr2 n.l))::(zBa (zAi n) 8++zBa (zAx n) 8))).ref.ref,(prs G).ref,(I e).ref]]).box),(12,(PV.map (map (zCa ((zAx n).getD x 0) M) q)).ref),(13,(sl (zAv (map (fun s=>prV ((zAx n).getD x 0,s)) q))).ref),(21,zA1 q),(22,I (q.length:Int)),(23,I (i:Int)),(24,bool (decide ((i:Int)<(q.length:Int))))]) ([(0,(agg (I n.h::prs n.l::sl (map ntV n.n)::sl (map zA1 n.s)::prs cs::PV.map (map zFg (map pr2 n.l))::(zBa (zAi n) 8++zBa (zAx n) 8))).ref),(2,prs L),(3,I (x:Int)),(4,zA1 q),(6,(agg [func 173 [] [(agg (I n.h::prs n.l::sl (map ntV n.n)::sl (map zA1 n.s)::prs cs::PV.map (map zFg (map pr2 n.l))::(zBa (zAi n) 8++zBa (zAx n) 8))).ref.ref,(prs G).ref,(I e).ref]]).box),(12,(PV.map (map (zCa ((zAx n).getD x 0) M) q)).ref),(13,(sl (map (fun s=>prV ((zAx n).getD x 0,s)) q)).ref),(21,zA1 q),(22,I (q.length:Int)),(23,I (i:Int)),(24,bool (decide ((i:Int)<(q.length:Int))))]) (by simp only[show zAv (map (fun s=>prV ((zAx n).getD x 0,s)) q)=map (fun s=>prV ((zAx n).getD x 0,s)) q from(by first|exact zAz _|exact zAE _|exact zAB _|exact zA3 (zAE _)|exact zA3 (zAB _)|exact zCH (by simp[zBN]) (zAz _))])<|zAh 1<|zAh 2<|zAh 1<|zAh 2<|zAl 2<|S_a [(10,.ret (tup []) ([(bool R.fst).box,(own 2 (map prV R.snd)).box,(func 187 [] (zGL ((zAx n).getD x 0) M q)).box]))] (ap y8 an)<|zAR<|zAc<|zAb<|S_a [(1,.v (bor 17 [(0,0)] 2 0 R.snd.length))] (ap ((by simp):bor 17 [(0,0)] 2 0 (map prV R.snd).length=bor 17 [(0,0)] 2 0 R.snd.length) an)<|zAn 1<|zAn 1<|S_g 1<|zAk<|E_z [(1,.yes),(1,.v (own 2 (map prV R.snd)))] (ap ((by exact zAQ (by simp only[bf,zzLn,zAJ]<;>omega)):(0+R.snd.length).ble (map prV R.snd).length=true)<|ap ((by simp[zBN]):own 2 (take R.snd.length (drop 0 (map prV R.snd)))=own 2 (map prV R.snd)) an)
end Go.Eng
