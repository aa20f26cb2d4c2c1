/- Just those ye are left with an earlier notice alone that are told; who jN a notice has it by a path; and with the further cries that are told nobody is left, or gaps are told that no cry mends; for every list of numbers, evening and stands. -/
import Derived.Test.YtppbomajegnkeaaGreatPh
import Derived.Test.YtppbomajegnkeaaGreatPd
import Derived.Test.YtppbomajegnkeaaGreatPg
import Derived.Test.YtppbomajegnkeaaGreatPe
set_option linter.unusedVariables false
set_option linter.unusedSimpArgs false
set_option linter.unusedSectionVars false
set_option maxRecDepth 10000
set_option maxHeartbeats 4000000
open Nat (beq ble blt)
open List (map replicate take drop range length filter)
open Go.Eng.PV (own agg addr func sl bor tup omap bad bool int)
namespace Go.Eng
open Go Go.Proofs
def fwR(n:Nw)(cs:LP)(e:Nat)(st:LI)(i:Nat):Bool×LP :=
 chs (zGA ((zAA n).getD i 0) st) (zFF (zQD n cs e (zAV n (zAD n cs e)) ((zAA n).getD i 0))) ((ofL n i (zAV n (zAD n cs e))).length+1) [] (ofL n i (zAV n (zAD n cs e))) (false,[])
def fwB(n:Nw)(i:Nat):Bool:=decide ((zAd n).getD i 0=i)
def fwL(n:Nw)(cs:LP)(e:Nat)(st:LI)(k:Nat):LP:=(range k).flatMap fun i=>if fwB n i=true then(fwR n cs e st i).2 else[]
def zQy(n:Nw)(cs:LP)(e:Nat)(st:LI)(k:Nat):Bool:=(range k).all fun i=>!fwB n i||(fwR n cs e st i).1
theorem zO3{n:Nw}{cs:LP}{e:Nat}{st:LI}{k:Nat}:fwL n cs e st (k+1)=if fwB n k=true then fwL n cs e st k++(fwR n cs e st k).2 else fwL n cs e st k:=by
 unfold fwL;rw[cw,f5];split
 ·rename_i h;simp[h]
 ·rename_i h;simp[h]
theorem zOE{n:Nw}{cs:LP}{e:Nat}{st:LI}{i:Nat}(ho:NwOk n):(fwR n cs e st i).2.length<=80:=by
 have h1:(ofL n i (zAV n (zAD n cs e))).length<=80:=bF (bU _ _) (zEj ho);exact zKg _ _ _ _ _ _ 80 (by simp) (by simpa using h1)
theorem zL0{n:Nw}{cs:LP}{e:Nat}{st:LI}(ho:NwOk n):∀ k,(fwL n cs e st k).length<=k*80
 |0=>by simp[fwL]|k+1=>by
  have h1:=zL0 (cs:=cs) (e:=e) (st:=st) ho k;have h2:=zOE (cs:=cs) (e:=e) (st:=st) (i:=k) ho;rw[zO3];split
  ·rw[bA];omega
  ·omega
theorem zYT{n:Nw}{cs:LP}{e:Nat}{st:LI}{k i:Nat}(hi:i<k)(hb:fwB n i=true)(h:(fwR n cs e st i).1=false):zQy n cs e st k=false:=by
 simp only[zQy,fH];exact⟨i,bC.2 hi,by simp[hb,h]⟩
theorem zYt{n:Nw}{st:LI}(hs6:n.s.length<=6)(hr:∀ s∈st,0<=s/\s<n.s.length)(hn:st.Nodup):st.length<=6:=by
 have:=zTK 6 (st.map Int.toNat) (by
  rw[List.Nodup,List.pairwise_map];refine List.Pairwise.imp_of_mem (fun{x y} hx hy h=>?_) hn;have:=hr x hx;have:=hr y hy;omega) fun y hy=>by
   obtain⟨x,hx,rfl⟩:=bT.1 hy;have:=hr x hx;omega
 simpa using this
theorem f57_1(n:Nw)(cs:LP)(e:Int)(st:LI)(ho:OffOk n cs e st):FG 57 [nwV n,prs cs,I e,zBi st] (.tup [.own 2 ((if zQy n cs e.toNat st n.n.length=true then fwL n cs e.toNat st n.n.length else[]).map prV),I (if zQy n cs e.toNat st n.n.length=true then 0 else 6)]):=by
 have je:=ho.ev;have vE:=je.cr;have jr:=vE.w;have hn:=vE.nw;have wy:=vE.len;have he:=je.ev;have kY:=hn.nl;have hs6:=hn.sl.2;have hst6:=zYt hs6 ho.rng ho.nd;have gi:=zEj (w:=zAD n cs e.toNat) hn;have vU:∀ g∈zAV n (zAD n cs e.toNat),(0<=g.1/\g.1<n.h)/\(0<=g.2/\g.2<n.n.length):=zSE;have kS:=f121_1 n cs e st ho (by omega);have hcu:∀ i:Nat,i<n.n.length->FG 134 [zE8 n cs,.agg [zWH n cs e (zAV n (zAD n cs e.toNat))],prs (ofL n i (zAV n (zAD n cs e.toNat))),I i,zBi st] (.tup [.own 2 ((fwR n cs e.toNat st i).2.map prV),.bool (fwR n cs e.toNat st i).1]):=fun i hi=>
  f134 n cs (zAV n (zAD n cs e.toNat)) (ofL n i (zAV n (zAD n cs e.toNat))) e i st jr wy he vU gi (bF (bU _ _) gi) hi ho.nd hst6 ho.rng
 have qS:∀ i:Nat,(ofL n i (zAV n (zAD n cs e.toNat))).length<=80:=fun i=>bF (bU _ _) gi;have uK:∀ i:Nat,(fwR n cs e.toNat st i).2.length<=80:=fun i=>zOE hn;have ww:∀ i:Nat,i<n.n.length->fwB n i=true->(fwR n cs e.toNat st i).1=false->zQy n cs e.toNat st n.n.length=false:=fun i hi hb h=>zYT hi hb h;refine zAe Tryz.f57 ?_;refine zAj 3<|zAn 4<|S_a [(12,.ret (tup [zE8 n cs,prs (zAV n (zAD n cs e.toNat)),agg [zWH n cs e (zAV n (zAD n cs e.toNat))],I 0]) [])] (ap kS an)<|S_g 10<|zAc<|zAj 2<|zAB<|zAh<|zAj 1<|zAc<|zAn 2<|S_a [(0,.n n.n.length)] (ap (lnS ntV n.n) an)<|S_g 1<|zAg 0 ?_
 refine zAu (fun(i,q)=>i<=n.n.length/\q=fwL n cs e.toNat st i/\∀ j,j<i->fwB n j=true->(fwR n cs e.toNat st j).1=true) (fun((i:Nat),(q:LP))=>[(14,.own 2 (q.map prV)),(34,I (i:Nat))]) (fun(i,_)=>n.n.length-i) ((0:Nat),([]:LP)) ⟨bR _,by simp[fwL],fun j hj=>absurd hj (b8 j)⟩ fun(i,q) ⟨hi,hq,ha⟩=>?_;have wB:q.length<=i*80:=by rw[hq];exact zL0 hn i
 by_cases yH:i<n.n.length
 ·have yK:=zO3 (n:=n) (cs:=cs) (e:=e.toNat) (st:=st) (k:=i);rw[<- hq] at yK;have qN:=hcu i yH;have hoi:=qS i;have qm:=uK i;have hfbi:=ww i yH;have hon:(fwB n i=true->(fwR n cs e.toNat st i).1=true)->∀ j,j<i+1->fwB n j=true->(fwR n cs e.toNat st j).1=true:=fun h j hj=>by
   rcases bE.1 hj with h2|rfl
   ·exact ha j h2
   ·exact h
  clear hcu qS uK ww ha hq;generalize fwR n cs e.toNat st i=R at *;generalize zAV n (zAD n cs e.toNat)=G at *;by_cases hb:(zAd n).getD i 0=i
  ·have jz:fwB n i=true:=decide_eq_true hb;rw[if_pos jz] at yK;refine zAj 1<|zAc<|zAL ((i:Int)<(n.n.length:Int)) (by omega)<|zAh<|zAc<|zAg 1<|zAj 2<|zAc<|zAn 4<|S_a [(2,.ob),(0,.v ((I ((zAd n).getD i 0)).ref))] (ap ((by exact zAl (by omega)):decide (i<8)=true)<|ap (zDE (F:=zAd n) (m:=8) (j:=i) (by omega):zBT (agg (zAY (zAd n) 8)).ref (i*(fun x=>x.size) Tryz.prog.types[3]) none=some (I ((zAd n).getD i 0)).ref) an)<|S_g 3<|zH6 ((zAd n).getD i 0=(i:Int)) (by omega)<|zAh<|zAn 5<|S_a [(9,.ret (own 2 (map prV (ofL n (i:Int) G))) [])] (ap (f135 n cs G ((i:Int)) (by omega) (by omega) (by omega)) an)<|zAp 2<|S_a [(6,.ob),(0,.v (prs (ofL n (i:Int) G))),(6,.ret (tup [own 2 (map prV R.snd),bool R.fst]) []),(1,.yes)] (ap (blz (map prV (ofL n (i:Int) G)))<|ap (frT prV (ofL n (i:Int) G))<|ap qN<|ap ((by exact zMA (zBv _) rfl):(tup [own 2 (map prV R.snd),bool R.fst]).free=true) an)<|S_g 5<|zAc<|zAj 2<|zEE (!R.fst) (fun k0=>(zAj 2<|zAm<|E_a [] an (tup [own 2 [],I 6]) [] ?_ rfl)) (fun k0=>(zAh<|zAb<|zAp 2<|S_a [(1,.ob),(0,.vs (map prV R.snd)),(0,.ob),(0,.ob),(0,.ob),(2,.ob),(0,.ob),(0,.yes),(2,.v (own 2 (map prV (q++R.snd))))] (ap (blz (map prV R.snd))<|ap ((by simp[zBd]):take (map prV R.snd).length (drop 0 (map prV R.snd))=map prV R.snd)<|ap ((by exact all_map _):((map prV R.snd).all fun x=>x.plain)=true)<|ap ((by exact all_map _):((map prV R.snd).all fun y=>y.cells.length.beq ((fun x=>x.size) Tryz.prog.types[37])&&y.cells.all fun q=>q.oneCell)=true)<|ap ((by exact d6.2 (zJ6 _)):(zBE (map prV R.snd)).isEmpty=true)<|ap (blz (map prV q))<|ap ((by exact zAP (by simp only[be,zzLn,zAJ]<;>omega)):((map prV q).length+(map prV R.snd).length).ble zAJ=true)<|ap ((by exact zBj (by simp<;>omega)):(0+(map prV q).length).beq (map prV q).length=true)<|ap ((by simp):own 2 (map prV q++map prV R.snd)=own 2 (map prV (q++R.snd))) an)<|S_g 1<|zAb<|S_i i<|S_g 1 ?_))
   ·rw[hfbi jz (by simpa using k0)];rfl
   ·exact rnd (i+1,q++R.2) ⟨by omega,yK.symm,hon fun _=>by simpa using k0⟩ (by simp only;omega)
  ·have hbf:fwB n i=false:=decide_eq_false hb;rw[if_neg (by rw[hbf];simp)] at yK;refine zAj 1<|zAc<|zAL ((i:Int)<(n.n.length:Int)) (by omega)<|zAh<|zAc<|zAg 1<|zAj 2<|zAc<|zAn 4<|S_a [(2,.ob),(0,.v ((I ((zAd n).getD i 0)).ref))] (ap ((by exact zAl (by omega)):decide (i<8)=true)<|ap (zDE (F:=zAd n) (m:=8) (j:=i) (by omega):zBT (agg (zAY (zAd n) 8)).ref (i*(fun x=>x.size) Tryz.prog.types[3]) none=some (I ((zAd n).getD i 0)).ref) an)<|S_g 3<|zIb ((zAd n).getD i 0=(i:Int)) (by omega)<|zAG 1<|zAb<|S_i i<|S_g 1 ?_
   exact rnd (i+1,q) ⟨by omega,yK.symm,hon fun h=>absurd h (by rw[hbf];simp)⟩ (by simp only;omega)
 ·have e1:i=n.n.length:=by omega
  subst e1;have yE:zQy n cs e.toNat st n.n.length=true:=by
   simp only[zQy,bj,bC];intro j hj;cases hbj:fwB n j
   ·rfl
   ·rw[ha j hj hbj];rfl
  rw[yE,if_pos rfl,if_pos rfl,<- hq];clear hcu qS uK ww ha hq;refine zAj 1<|zAc<|zAS ((n.n.length:Int)<(n.n.length:Int)) (by omega)<|zAG 0<|zAn 1<|S_a [(2,.yes)] (ap ((by exact zBj (by simp<;>omega)):(beq 0 0&&(map prV q).length.beq (map prV q).length)=true) an)<|S_g 1<|zAm<|E_z [(1,.yes),(1,.v (own 2 (map prV q)))] (ap (blz (map prV q))<|ap ((zAQ zAW):own 2 (take (map prV q).length (drop 0 (map prV q)))=own 2 (map prV q)) an)
end Go.Eng
set_option maxHeartbeats 1000000
namespace Go.Eng
open Go
theorem zTx{l:LP}{g:Int×Int}:has l g=true↔g∈l:=by
 simp only[has,bN,decide_eq_true_eq];exact⟨fun⟨x,h1,h2⟩=>h2▸h1,fun h=>⟨g,h,rfl⟩⟩
theorem zOD{n:Nw}{cs:LP}{la s:Int}{e h x:Nat}(ho:CrW n (cs++[(la,s)]))(hh:h<n.h.toNat)(hx:x<n.n.length)(hl:(zAA n).getD x 0=la)(hg:zIX n (zAD n cs e) h x=true) :
  zFF (zQD n cs e (zAV n (zAD n cs e)) la) (la,s) ((h:Int),(x:Int))=true↔zKJ n (la,s) e h ((zAd n).getD x 0).toNat:=by
 have hm:((h:Int),(x:Int))∈zAV n (zAD n cs e):=(zHW hh hx).2 hg;show has (zFb n (zAD n (cs++[(la,s)]) e) (zAV n (zAD n cs e))) ((h:Int),(x:Int))=true↔_
 rw[zTx,zUc hm,zHW hh hx,zLP ho (la:=la) (fun c hc=>by rw[bl.1 hc]) e hh hx hl];constructor
 ·intro h1;exact cA fun h2=>h1 ⟨hg,fun⟨c,hc,h3⟩=>h2 (by rw[bl.1 hc] at h3;exact h3)⟩
 ·intro h1 h2;exact h2.2 ⟨(la,s),by simp,h1⟩
theorem zSy{n:Nw}{cs ext:LP}{st:LI}{e i:Nat}(ho:CrW n (cs++ext))(hext:∀ c∈ext,c∈zGA ((zAA n).getD i 0) st)(y7:∀ x,x<n.n.length->(zAd n).getD x 0=i->(zAA n).getD x 0=(zAA n).getD i 0) :
  (∀ g∈ofL n i (zAV n (zAD n cs e)),∃ c∈ext,zFF (zQD n cs e (zAV n (zAD n cs e)) ((zAA n).getD i 0)) c g=true)↔ofL n i (zAV n (zAD n (cs++ext) e))=[]:=by
 have u3:∀ c∈ext,c.1=(zAA n).getD i 0:=fun c hc=>by
  obtain⟨s,_,rfl⟩:=bT.1 (hext c hc);rfl
 have jr:∀ c∈ext,CrW n (cs++[c]):=fun c hc=>by
  have hl:=ho.len;rw[bA] at hl;have:=iJ hc;refine⟨ho.nw,by rw[bA,bW];omega,fun y hy=>?_⟩;rcases bg.1 hy with hy|hy
  ·exact ho.cs y (bg.2 (.inl hy))
  ·rw[bl.1 hy];exact ho.cs c (bg.2 (.inr hc))
 have kS:∀ (w:LI) (g:Int×Int),g∈ofL n i (zAV n w)↔∃ h x:Nat,h<n.h.toNat/\x<n.n.length/\g=((h:Int),(x:Int))/\zIX n w h x=true/\(zAd n).getD x 0=i:=by
  intro w g;simp only[ofL,bP,zP9,bD,decide_eq_false_iff_not,fk];constructor
  ·rintro⟨⟨h,x,h1,h2,rfl,h3⟩,h4⟩;exact⟨h,x,h1,h2,rfl,h3,by simpa using h4⟩
  ·rintro⟨h,x,h1,h2,rfl,h3,h4⟩;exact⟨⟨h,x,h1,h2,rfl,h3⟩,by simpa using h4⟩
 rw[fg];constructor
 ·intro hc g hg;obtain⟨h,x,h1,h2,rfl,h3,h4⟩:=(kS _ g).1 hg;have hl:=y7 x h2 h4;obtain⟨h5,h6⟩:=(zLP ho u3 e h1 h2 hl).1 h3;obtain⟨c,qG,vr⟩:=hc _ ((kS _ _).2 ⟨h,x,h1,h2,rfl,h5,h4⟩);have jK:=u3 c qG;have kA:c=((zAA n).getD i 0,c.2):=by rw[<- jK]
  rw[kA] at vr;have qA:=jr c qG;rw[kA] at qA;have:=(zOD qA h1 h2 hl h5).1 vr;rw[<- kA] at this;exact h6 ⟨c,qG,this⟩
 ·intro hn g hg;obtain⟨h,x,h1,h2,rfl,h3,h4⟩:=(kS _ g).1 hg;have hl:=y7 x h2 h4;refine cA fun jA=>hn _ ((kS _ _).2 ⟨h,x,h1,h2,rfl,(zLP ho u3 e h1 h2 hl).2 ⟨h3,fun⟨c,qG,vE⟩=>jA ⟨c,qG,?_⟩⟩,h4⟩);have jK:=u3 c qG;have kA:c=((zAA n).getD i 0,c.2):=by rw[<- jK]
  rw[kA] at vE ⊢;have qA:=jr c qG;rw[kA] at qA;exact(zOD qA h1 h2 hl h3).2 vE
end Go.Eng
set_option maxHeartbeats 1000000
namespace Go.Eng
open Go
theorem zLj{n:Nw}(ho:NwOk n){x i:Nat}(hx:x<n.n.length)(hi:i<n.n.length):(zAA n).getD x 0=(zAA n).getD i 0↔(zAd n).getD x 0=(zAd n).getD i 0:=by
 obtain⟨l,a1,a2,a3,_,a5⟩:=zCC ho hx;obtain⟨m,b1,b2,b3,_,b5⟩:=zCC ho hi;unfold chn at *;constructor
 ·intro h;have:l=m:=by omega
  subst this;omega
 ·intro h;have h1:=a5 m b2 (by omega);have h2:=b5 l a2 (by omega);omega
end Go.Eng
set_option maxHeartbeats 1000000
namespace Go.Eng
open Go
end Go.Eng
set_option maxHeartbeats 1000000
namespace Go.Eng
open Go
end Go.Eng
set_option maxHeartbeats 1000000
namespace Go.Eng
open Go
theorem zSU{n:Nw}{cs:LP}{e:Nat}{st:LI}{i:Nat}(hr:(fwR n cs e st i).1=true):zQv (zGA ((zAA n).getD i 0) st) (zFF (zQD n cs e (zAV n (zAD n cs e)) ((zAA n).getD i 0))) (fwR n cs e st i).2 (ofL n i (zAV n (zAD n cs e))):=by
 have hR:=zSu (zGA ((zAA n).getD i 0) st) (zFF (zQD n cs e (zAV n (zAD n cs e)) ((zAA n).getD i 0))) ((ofL n i (zAV n (zAD n cs e))).length+1) [] (ofL n i (zAV n (zAD n cs e))) (false,[]) (by omega);have uj:chs (zGA ((zAA n).getD i 0) st) (zFF (zQD n cs e (zAV n (zAD n cs e)) ((zAA n).getD i 0))) ((ofL n i (zAV n (zAD n cs e))).length+1) [] (ofL n i (zAV n (zAD n cs e))) (false,[])=fwR n cs e st i:=rfl;rw[uj] at hR;rcases hR.new with h|⟨_,ext,h2,h3⟩
 ·rw[h] at hr;cases hr
 ·rw[cY] at h2;rw[h2];exact h3
theorem zOI{n:Nw}{cs:LP}{e:Nat}{st:LI}{c:Int×Int}{k:Nat}:c∈fwL n cs e st k↔∃ i,i<k/\fwB n i=true/\c∈(fwR n cs e st i).2:=by
 simp only[fwL,cT,bC];constructor
 ·rintro⟨i,h1,h2⟩;split at h2
  ·exact⟨i,h1,by assumption,h2⟩
  ·simp at h2
 ·rintro⟨i,h1,h2,h3⟩;exact⟨i,h1,by rw[if_pos h2];exact h3⟩
theorem zQl{n:Nw}{cs:LP}{e:Nat}{st:LI}(ho:CrW n cs)(yO:cs.length<=16)(yW:∀ s∈st,0<=s/\s<n.s.length)(yE:zQy n cs e st n.n.length=true) :
  CrW n (cs++fwL n cs e st n.n.length)/\zAV n (zAD n (cs++fwL n cs e st n.n.length) e)=[]:=by
 have hN:=ho.nw;have h8:=hN.nl;simp only[zQy,bj,bC,bV,bD] at yE;have hin:∀ i,i<n.n.length->fwB n i=true->∀ c∈(fwR n cs e st i).2,c∈zGA ((zAA n).getD i 0) st:=fun i hi hb c hc=>by
  rcases yE i hi with h|h
  ·rw[hb] at h;cases h
  ·exact(zSU h).1 c hc
 have j2:∀ i,i<n.n.length->∀ c∈zGA ((zAA n).getD i 0) st,(0<=c.1/\c.1<n.n.length)/\(0<=c.2/\c.2<n.s.length):=fun i hi c hc=>by
  obtain⟨s,hs,rfl⟩:=bT.1 hc;obtain⟨l,a1,a2,_⟩:=zCC hN hi;exact⟨⟨by simp only[a1];omega,by simp only[a1];omega⟩,yW s hs⟩
 have hl:=zL0 (cs:=cs) (e:=e) (st:=st) hN n.n.length;have hw:CrW n (cs++fwL n cs e st n.n.length):=⟨hN,by rw[bA];omega,fun c hc=>by
  rcases bg.1 hc with hc|hc
  ·exact ho.cs c hc
  ·obtain⟨i,h1,h2,h3⟩:=zOI.1 hc;exact j2 i h1 c (hin i h1 h2 c h3)⟩
 refine⟨hw,fg.2 fun g hg=>?_⟩;obtain⟨h,x,hh,hx,rfl,hb⟩:=zFQ hg;have hf:=zBk hN x hx;have hff:=zKv hN x hx;obtain⟨i,hi⟩:∃ i:Nat,(zAd n).getD x 0=i:=⟨((zAd n).getD x 0).toNat,by omega⟩;have hiN:i<n.n.length:=by omega
 rw[hi,bQ] at hff;have hib:fwB n i=true:=decide_eq_true hff;have ud:(fwR n cs e st i).1=true:=by
  rcases yE i hiN with h|h
  ·rw[hib] at h;cases h
  ·exact h
 have hcu:=zSU ud;have hwi:CrW n (cs++(fwR n cs e st i).2):=⟨hN,by
   have:=zOE (cs:=cs) (e:=e) (st:=st) (i:=i) hN;rw[bA];omega,fun c hc=>by
  rcases bg.1 hc with hc|hc
  ·exact ho.cs c hc
  ·exact j2 i hiN c (hcu.1 c hc)⟩
 have jA:=(zSy (e:=e) (st:=st) (i:=i) hwi hcu.1 fun y hy hyi=>(zLj hN hy hiN).2 (by rw[hyi,hff])).1 hcu.2;have hcol:=zS4 (a:=fwL n cs e st n.n.length) (b:=(fwR n cs e st i).2) hN (c:=i) (by omega) (fun a ha v=>by
  rw[(zFE (zCn hw).2).ge ha (by omega),(zFE (zCn hwi).2).ge ha (by omega)];refine or_congr dG ⟨fun⟨y,h1,h2,h3,h4⟩=>⟨y,h1,h2,?_,h4⟩,fun⟨y,h1,h2,h3,h4⟩=>⟨y,h1,h2,?_,h4⟩⟩
  ·obtain⟨c,g1,g2⟩:=bN.1 h3;obtain⟨i',k1,k2,k3⟩:=zOI.1 g1;have jK:c.1=(y:Int):=by simp only[hrB,bb,decide_eq_true_eq] at g2;exact g2.1
   obtain⟨s,_,rfl⟩:=bT.1 (hin i' k1 k2 c k3);obtain⟨l,a1,a2,a3,_⟩:=zCC hN k1;have hly:l=y:=by simp only at jK;omega
   subst hly;have vd:=of_decide_eq_true k2;unfold chn at a3;have:i'=i:=by omega
   subst this;exact bN.2 ⟨_,k3,g2⟩
  ·obtain⟨c,g1,g2⟩:=bN.1 h3;exact bN.2 ⟨c,zOI.2 ⟨i,hiN,hib,g1⟩,g2⟩) e h hh
 have kF:=fun v=>zEu (zCn hw).1 (zCn hw).2 hw (c:=i) (by omega) e h v hh;have wD:=fun v=>zEu (zCn hwi).1 (zCn hwi).2 hwi (c:=i) (by omega) e h v hh;have uY:(zAD n (cs++fwL n cs e st n.n.length) e).getD (h*8+i) 0=(zAD n (cs++(fwR n cs e st i).2) e).getD (h*8+i) 0:=by
  have e1:=(wD ((zAD n (cs++fwL n cs e st n.n.length) e).getD (h*8+i) 0)).2 (((kF _).1 (dj _)).imp id (hcol _).1);have e2:=(kF ((zAD n (cs++(fwR n cs e st i).2) e).getD (h*8+i) 0)).2 (((wD _).1 (dj _)).imp id (hcol _).2);omega
 have jS:zIX n (zAD n (cs++(fwR n cs e st i).2) e) h x=true:=by
  simp only[zIX,hi,bQ] at hb ⊢;rw[<- uY];exact hb
 have:((h:Int),(x:Int))∈ofL n i (zAV n (zAD n (cs++(fwR n cs e st i).2) e)):=bP.2 ⟨(zHW hh hx).2 jS,by simp only[bQ,hi];simp⟩;rw[jA] at this;simp at this
end Go.Eng
set_option maxHeartbeats 1000000
namespace Go.Eng
open Go
theorem zRI{n:Nw}{cs:LP}{i s:Int}{e:Nat}{g:Int×Int}(ho:CrW n (cs++[(i,s)]))(hg:g∈zFb n (zAD n (cs++[(i,s)]) e) (zAV n (zAD n cs e))):(zAd n).getD g.2.toNat 0=(zAd n).getD i.toNat 0:=by
 obtain⟨jh,u6⟩:=bP.1 hg;obtain⟨h,x,hh,hx,rfl,hb⟩:=zFQ jh;have hN:=ho.nw;have h8:=hN.nl;have hf:=zBk hN x hx;refine cA fun hI=>?_;simp only[bQ] at hI;have jA:=zLE (a:=[(i,s)]) hN (c:=((zAd n).getD x 0).toNat) (by omega) (fun a ha=>by
  rw[(zFE (zCn ho).2).ge ha (by omega)];rintro(h1|⟨y,h1,h2,h3,h4⟩)
  ·omega
  ·obtain⟨c,g1,g2⟩:=bN.1 h3;rw[bl.1 g1] at g2;simp only[hrB,bb,decide_eq_true_eq] at g2;rw[g2.1,bQ] at hI;omega) e h hh
 have hu:=fun v=>zEu (zCn ho).1 (zCn ho).2 ho (c:=((zAd n).getD x 0).toNat) (by omega) e h v hh;simp only[zIX,bb,decide_eq_true_eq] at hb;simp only[zVM,bQ,decide_eq_true_eq] at u6;have u1:=(hu x).2 (.inl (by omega));rcases(hu ((zAD n (cs++[(i,s)]) e).getD (h*8+((zAd n).getD x 0).toNat) 0)).1 (dj _) with u2|u2
 ·omega
 ·omega
end Go.Eng
set_option maxRecDepth 10000
set_option maxHeartbeats 4000000
namespace Go.Eng
open Go Go.Proofs
theorem f38_2(n:Nw)(cs:LP)(h:Int)(x:Int)(ho:CrOk n cs)(hh:0<=h/\h<n.h)(hx:0<=x/\x<n.n.length)(hm:∀ j,j<=12->(zAD n cs j).getD (h.toNat*8+((zAd n).getD x.toNat 0).toNat) 0≠x):FG 38 [nwV n,prs cs,I h,I x] (.tup [.own 1 [],I 6]):=by
 have hn:=ho.nw;have jr:=ho.w;have hb:=hn.h;have kY:=hn.nl;have hin:inB x 0 (n.n.length-1)=true:=by simp only[inB,bb,decide_eq_true_eq];omega
 have hih:inB h 0 (n.h-1)=true:=by simp only[inB,bb,decide_eq_true_eq];omega
 have ww:=zBk hn x.toNat (by omega);refine zAe Tryz.f38 ?_;refine zAj 4<|zAn 2<|S_a [(8,.ret (tup [zE8 n cs,I 0]) [])] (ap (f99_1 n cs (by omega)) an)<|S_g 5<|zAc<|zAg 0<|zAj 3<|zAB<|zAn 2<|S_a [(8,.ret (bool (inB h 0 (n.h-1))) [])] (ap (f109 n h (by omega)) an)<|zAp 2<|zFD 32 (!inB h 0 (n.h-1)) (fun k0=>(S_g 6<|zB9<|zAj 2<|zAm<|E_a [] an (tup [own 1 [],I 1]) [] ?_ rfl)) (fun k0=>(zAp 2<|S_a [(8,.ret (bool (inB x 0 ((n.n.length:Int)-1))) [])] (ap (f106 n x (by first|omega|(simp<;>omega))) an)<|S_g 3<|zEE (!inB x 0 ((n.n.length:Int)-1)) (fun k1=>(zAj 2<|zAm<|E_a [] an (tup [own 1 [],I 1]) [] ?_ rfl)) (fun k1=>(zAh<|zAn 4<|S_a [(0,.ob),(1,.ob),(0,.v ((I ((zAd n).getD x.toNat 0)).ref))] (ap ((by exact zAl (by omega)):decide (0<=x)=true)<|ap ((by exact zAl (by omega)):decide (x.toNat<8)=true)<|ap (zDE (F:=zAd n) (m:=8) (j:=x.toNat) (by omega):zBT (agg (zAY (zAd n) 8)).ref (x.toNat*(fun x=>x.size) Tryz.prog.types[3]) none=some (I ((zAd n).getD x.toNat 0)).ref) an)<|S_g 3<|zAn 1<|S_a [(5,.ret (hdV (zIi n cs)) [])] (ap (f100 n cs (by omega)) an)<|S_g 3<|zAc<|zAg 1 ?_))))
 ·exact absurd (by assumption:(!inB h 0 (n.h-1))=true) (by rw[hih];simp)
 ·exact absurd (by assumption:(!inB x 0 (n.n.length-1))=true) (by rw[hin];simp)
 ·generalize hc:((zAd n).getD x.toNat 0)=c at *;refine zAu (fun(j,S)=>j<=12/\S=zRs n cs (j+1)) (fun(j,S)=>[(13,zVU S)]) (fun(j,_)=>12-j) ((0:Nat),[zIi n cs]) ⟨by omega,rfl⟩ fun(j,S) ⟨hj,hS⟩=>?_;have v8:S.length=j+1:=by rw[hS];simp[zRs]
  have gB:S.getD (S.length-1) []=zAD n cs j:=by rw[v8,hS];exact zLT (by omega)
  have wx:(S.getD (S.length-1) []).length=80:=by rw[gB];exact zBr j
  have hI:=hm j hj;rw[<- gB] at hI;have hSS:S++[zB8 n (S.getD (S.length-1) [])]=zRs n cs (j+1+1):=by rw[zNC (k:=j+1),<- hS,gB];rfl
  by_cases hjk:j<12
  ·refine zAc<|zAc<|zAb<|S_a [(1,.v (bor 13 [(0,0)] 80 0 S.length))] (ap ((by simp):bor 13 [(0,0)] 80 0 (map hdV S).length=bor 13 [(0,0)] 80 0 S.length) an)<|S_a [(1,.v (bor 13 [(0,0)] 80 0 S.length))] (ap ((by simp):bor 13 [(0,0)] 80 0 (map hdV S).length=bor 13 [(0,0)] 80 0 S.length) an)<|zAp 1<|S_a [(1,.v (I (↑(S.length-1):Int)))] (ap ((zCj (by omega) (by omega)):I (IntKind.i64.wrap ((S.length:Int)-1))=I (↑(S.length-1):Int)) an)<|zAp 2<|S_a [(2,.ob),(1,.n (S.length-1))] (ap ((by exact zAl (by omega)):decide (S.length-1<S.length)=true)<|ap ((by simp):some (0+(S.length-1))=some (S.length-1)) an)<|S_a [(0,.ob),(1,.ob)] (ap ((by exact zAl (by omega)):decide (0<=h)=true)<|ap ((by exact zAl (by omega)):decide (h.toNat<10)=true) an)<|S_a [(0,.ob),(1,.ob)] (ap ((by exact zAl (by omega)):decide (0<=c)=true)<|ap ((by exact zAl (by omega)):decide (c.toNat<8)=true) an)<|S_a [(0,.cs true ([I ((S.getD (S.length-1) []).getD (h.toNat*8+c.toNat) 0)]))] (ap (zB2 (q:=own 80 (map hdV S)) (xs:=map hdV S) (x:=agg (zAY (S.getD (S.length-1) []) 80)) (zFV (xs:=[own 80 (map hdV S)]) (x:=own 80 (map hdV S)) (y:=own 80 (map hdV S)) rfl rfl) (zBN [] (by omega)) (zD5 (F:=S.getD (S.length-1) []) (m:=80) (j:=h.toNat*8+c.toNat) (by first|rfl|exact zB7 (by kernel_rfl)|exact zB6 (by kernel_rfl)|exact zDl (by kernel_rfl) (by kernel_rfl)|exact zC0 (by kernel_rfl)|exact zDr (by kernel_rfl) (by kernel_rfl)|exact zDg (by kernel_rfl)|(simp;done)) (by omega)):zAo 13 (own 80 (map hdV S)).box [(0,0)] (S.length-1) (0+h.toNat*(fun x=>x.size) Tryz.prog.types[128]+c.toNat*(fun x=>x.size) Tryz.prog.types[3]) 1=some (true,[I ((S.getD (S.length-1) []).getD (h.toNat*8+c.toNat) 0)])) an)<|S_g 2<|zIb ((S.getD (S.length-1) []).getD (h.toNat*8+c.toNat) 0=x) (by omega)<|zAh<|zAg 2<|zAc<|zAc<|zAb<|S_a [(1,.v (bor 13 [(0,0)] 80 0 S.length))] (ap ((by simp):bor 13 [(0,0)] 80 0 (map hdV S).length=bor 13 [(0,0)] 80 0 S.length) an)<|S_g 2<|zAS ((S.length:Int)>12) (by omega)<|zAh<|zAb<|S_a [(1,.v (bor 13 [(0,0)] 80 0 S.length))] (ap ((by simp):bor 13 [(0,0)] 80 0 (map hdV S).length=bor 13 [(0,0)] 80 0 S.length) an)<|zAp 1<|S_a [(1,.v (bor 13 [(0,0)] 80 0 S.length))] (ap ((by simp):bor 13 [(0,0)] 80 0 (map hdV S).length=bor 13 [(0,0)] 80 0 S.length) an)<|S_a [(1,.v (bor 13 [(0,0)] 80 0 S.length))] (ap ((by simp):bor 13 [(0,0)] 80 0 (map hdV S).length=bor 13 [(0,0)] 80 0 S.length) an)<|zAp 1<|S_a [(1,.v (I (↑(S.length-1):Int)))] (ap ((zCj (by omega) (by omega)):I (IntKind.i64.wrap ((S.length:Int)-1))=I (↑(S.length-1):Int)) an)<|S_a [(2,.ob),(1,.n (S.length-1))] (ap ((by exact zAl (by omega)):decide (S.length-1<S.length)=true)<|ap ((by simp):some (0+(S.length-1))=some (S.length-1)) an)<|S_a [(0,.cs true (zAY (S.getD (S.length-1) []) 80))] (ap (zB2 (q:=own 80 (map hdV S)) (xs:=map hdV S) (x:=agg (zAY (S.getD (S.length-1) []) 80)) (zFV (xs:=[own 80 (map hdV S)]) (x:=own 80 (map hdV S)) (y:=own 80 (map hdV S)) rfl rfl) (zBN [] (by omega)):zAo 13 (own 80 (map hdV S)).box [(0,0)] (S.length-1) 0 Tryz.prog.types[130].size=some (true,zAY (S.getD (S.length-1) []) 80)) an)<|S_a [(7,.ret (hdV (zB8 n (S.getD (S.length-1) []))) [])] (ap (f101 n cs (S.getD (S.length-1) []) (by omega) (by omega)) an)<|zAp 1<|S_a [(4,.ob),(0,.ob),(0,.yes),(2,.v (own 80 (map hdV (S++[zB8 n (S.getD (S.length-1) [])]))))] (ap ((by exact zAP (by simp only[be,zzLn,zAJ]<;>omega)):(0+S.length).ble (map hdV S).length=true)<|ap ((by exact zAP (by simp only[be,zzLn,zAJ]<;>omega)):((map hdV S).length + [agg (zAY (zB8 n (S.getD (S.length-1) [])) 80)].length).ble zAJ=true)<|ap ((by exact zBj (by simp<;>omega)):(0+S.length).beq (map hdV S).length=true)<|ap ((zAQ (zBF (by kernel_rfl))):own 80 (map hdV S++[agg (zAY (zB8 n (S.getD (S.length-1) [])) 80)])=own 80 (map hdV (S++[zB8 n (S.getD (S.length-1) [])]))) an)<|S_g 1 ?_
   exact rnd (j+1,S++[zB8 n (S.getD (S.length-1) [])]) ⟨by omega,hSS⟩ (by simp only;omega)
  ·refine zAc<|zAc<|zAb<|S_a [(1,.v (bor 13 [(0,0)] 80 0 S.length))] (ap ((by simp):bor 13 [(0,0)] 80 0 (map hdV S).length=bor 13 [(0,0)] 80 0 S.length) an)<|S_a [(1,.v (bor 13 [(0,0)] 80 0 S.length))] (ap ((by simp):bor 13 [(0,0)] 80 0 (map hdV S).length=bor 13 [(0,0)] 80 0 S.length) an)<|zAp 1<|S_a [(1,.v (I (↑(S.length-1):Int)))] (ap ((zCj (by omega) (by omega)):I (IntKind.i64.wrap ((S.length:Int)-1))=I (↑(S.length-1):Int)) an)<|zAp 2<|S_a [(2,.ob),(1,.n (S.length-1))] (ap ((by exact zAl (by omega)):decide (S.length-1<S.length)=true)<|ap ((by simp):some (0+(S.length-1))=some (S.length-1)) an)<|S_a [(0,.ob),(1,.ob)] (ap ((by exact zAl (by omega)):decide (0<=h)=true)<|ap ((by exact zAl (by omega)):decide (h.toNat<10)=true) an)<|S_a [(0,.ob),(1,.ob)] (ap ((by exact zAl (by omega)):decide (0<=c)=true)<|ap ((by exact zAl (by omega)):decide (c.toNat<8)=true) an)<|S_a [(0,.cs true ([I ((S.getD (S.length-1) []).getD (h.toNat*8+c.toNat) 0)]))] (ap (zB2 (q:=own 80 (map hdV S)) (xs:=map hdV S) (x:=agg (zAY (S.getD (S.length-1) []) 80)) (zFV (xs:=[own 80 (map hdV S)]) (x:=own 80 (map hdV S)) (y:=own 80 (map hdV S)) rfl rfl) (zBN [] (by omega)) (zD5 (F:=S.getD (S.length-1) []) (m:=80) (j:=h.toNat*8+c.toNat) (by first|rfl|exact zB7 (by kernel_rfl)|exact zB6 (by kernel_rfl)|exact zDl (by kernel_rfl) (by kernel_rfl)|exact zC0 (by kernel_rfl)|exact zDr (by kernel_rfl) (by kernel_rfl)|exact zDg (by kernel_rfl)|(simp;done)) (by omega)):zAo 13 (own 80 (map hdV S)).box [(0,0)] (S.length-1) (0+h.toNat*(fun x=>x.size) Tryz.prog.types[128]+c.toNat*(fun x=>x.size) Tryz.prog.types[3]) 1=some (true,[I ((S.getD (S.length-1) []).getD (h.toNat*8+c.toNat) 0)])) an)<|S_g 2<|zIb ((S.getD (S.length-1) []).getD (h.toNat*8+c.toNat) 0=x) (by omega)<|zAh<|zAg 2<|zAc<|zAc<|zAb<|S_a [(1,.v (bor 13 [(0,0)] 80 0 S.length))] (ap ((by simp):bor 13 [(0,0)] 80 0 (map hdV S).length=bor 13 [(0,0)] 80 0 S.length) an)<|S_g 2<|zAL ((S.length:Int)>12) (by omega)<|zAj 2<|zAm E_0
def zNW(n:Nw)(cs:LP)(l:LI)(c:Nat)(x:Int)(i:Nat):Bool:=decide ((zAD n cs i).getD ((l.getD i 0).toNat*8+c) 0=x)&&(decide (i=0)||zDe n (l.getD (i-1) 0) (l.getD i 0))
def psB(n:Nw)(cs:LP)(l:LI)(x:Int):Bool:=inB l.length 1 13&&(l.all fun y=>inB y 0 (n.h-1))&&(range l.length).all (zNW n cs l ((zAd n).getD x.toNat 0).toNat x)
theorem f36_1(n:Nw)(cs:LP)(l:LI)(x:Int)(ho:CrOk n cs)(hl:l.length<1000000)(hx:0<=x/\x<n.n.length):FG 36 [nwV n,prs cs,zBi l,I x] (.tup [.bool (psB n cs l x),I 0]):=by
 have hn:=ho.nw;have jr:=ho.w;have hb:=hn.h;have kY:=hn.nl;have hin:inB x 0 (n.n.length-1)=true:=by simp only[inB,bb,decide_eq_true_eq];omega
 have ww:=zBk hn x.toNat (by omega);refine zAe Tryz.f36 ?_;refine zAj 3<|zAn 2<|S_a [(8,.ret (tup [zE8 n cs,I 0]) [])] (ap (f99_1 n cs (by omega)) an)<|S_g 5<|zAc<|zAg 0<|zAj 3<|zAB<|zAn 2<|S_a [(8,.ret (bool (inB x 0 ((n.n.length:Int)-1))) [])] (ap (f106 n x (by first|omega|(simp<;>omega))) an)<|S_g 2<|zEE (!inB x 0 ((n.n.length:Int)-1)) (fun k0=>(zAj 2<|zAm<|E_a [] an (tup [bool false,I 1]) [] ?_ rfl)) (fun k0=>(zAn 1<|S_a [(0,.n l.length)] (ap (lnS I l) an)<|S_a [(10,.ret (bool (inB (l.length:Int) 1 13)) [])] (ap (f107 ((l.length:Int)) (1) (13)) an)<|zAp 2<|zFD 35 (!inB (l.length:Int) 1 13) (fun k1=>(S_g 7<|zB9<|zAj 2<|zAm<|E_a [] an (tup [bool false,I 0]) [] ?_ rfl)) (fun k1=>(zAp 3<|S_a [(7,.ret (bool (l.all fun x=>inB x 0 (n.h-1))) [])] (ap (f108_1 n (by omega) l (by omega)) an)<|S_g 3<|zEE (!l.all fun x=>inB x 0 (n.h-1)) (fun k2=>(zAj 2<|zAm<|E_a [] an (tup [bool false,I 0]) [] ?_ rfl)) (fun k2=>(zAh<|zAn 1<|S_a [(5,.ret (hdV (zIi n cs)) [])] (ap (f100 n cs (by omega)) an)<|S_g 2<|zAc<|zAn 1<|S_a [(0,.n l.length)] (ap (lnS I l) an)<|S_g 1<|zAg 1 ?_))))))
 ·rw[hin] at k0;cases k0
 ·rw[bD] at k1;simp only[psB,k1,cX]
 ·rw[bD] at k2;simp only[psB,k2,dO,cX]
 ·rw [bB] at k1 k2;have hl13:=zEn k1;have hlb:∀ y∈l,0<=y/\y<n.h:=fun y hy=>by
   have:=zEn (bj.1 k2 y hy);omega
  have hpb:psB n cs l x=(range l.length).all (zNW n cs l ((zAd n).getD x.toNat 0).toNat x):=by simp only[psB,k1,k2,cR]
  rw[hpb];refine zAu (fun i=>i<=l.length/\∀ j,j<i->zNW n cs l ((zAd n).getD x.toNat 0).toNat x j=true) (fun(i:Nat)=>[(12,.box (hdV (zAD n cs i))),(46,I (i:Nat))]) (fun i=>l.length-i) (0:Nat) ⟨by omega,fun j hj=>absurd hj (b8 j)⟩ fun i ⟨hi,ha⟩=>?_;have wx:=zBr (n:=n) (cs:=cs) i;by_cases yH:i<l.length
  ·have hli:=zBP (d:=(0:Int)) hlb i yH;have yC:zNW n cs l ((zAd n).getD x.toNat 0).toNat x i=true->∀ j,j<i+1->zNW n cs l ((zAd n).getD x.toNat 0).toNat x j=true:=fun h j hj=>by
    rcases bE.1 hj with h2|rfl
    ·exact ha j h2
    ·exact h
   have jA:zNW n cs l ((zAd n).getD x.toNat 0).toNat x i=false->(range l.length).all (zNW n cs l ((zAd n).getD x.toNat 0).toNat x)=false:=fun h=>by
    simp only[fH];exact⟨i,bC.2 yH,by rw[h];simp⟩
   by_cases jY:i=0
   ·refine zAj 1<|zAc<|zAL ((i:Int)<(l.length:Int)) (by omega)<|zAh<|zAc<|zAg 2<|zAn 1<|S_a [(2,.v (I (l.getD i 0)))] (ap (zBN (0) (by omega):(map I l)[i]? = some (I (l.getD i 0))) an)<|S_g 3<|zAc<|zAn 5<|S_a [(0,.ob),(1,.ob),(0,.v ((I ((zAd n).getD x.toNat 0)).ref))] (ap ((by exact zAl (by omega)):decide (0<=x)=true)<|ap ((by exact zAl (by omega)):decide (x.toNat<8)=true)<|ap (zDE (F:=zAd n) (m:=8) (j:=x.toNat) (by omega):zBT (agg (zAY (zAd n) 8)).ref (x.toNat*(fun x=>x.size) Tryz.prog.types[3]) none=some (I ((zAd n).getD x.toNat 0)).ref) an)<|zAp 1<|S_a [(0,.ob),(1,.ob)] (ap ((by exact zAl (by omega)):decide (0<=l.getD i 0)=true)<|ap ((by exact zAl (by omega)):decide ((l.getD i 0).toNat<10)=true) an)<|S_a [(0,.ob),(1,.ob)] (ap ((by exact zAl (by omega)):decide (0<=(zAd n).getD x.toNat 0)=true)<|ap ((by exact zAl (by omega)):decide (((zAd n).getD x.toNat 0).toNat<8)=true) an)<|S_a [(0,.cs true ([I ((zAD n cs i).getD ((l.getD i 0).toNat*8+((zAd n).getD x.toNat 0).toNat) 0)]))] (ap (zB2 (q:=(agg (zAY (zAD n cs i) 80)).box) (xs:=[agg (zAY (zAD n cs i) 80)]) (x:=agg (zAY (zAD n cs i) 80)) rfl rfl (zD5 (F:=zAD n cs i) (m:=80) (j:=(l.getD i 0).toNat*8+((zAd n).getD x.toNat 0).toNat) (by first|rfl|exact zB7 (by kernel_rfl)|exact zB6 (by kernel_rfl)|exact zDl (by kernel_rfl) (by kernel_rfl)|exact zC0 (by kernel_rfl)|exact zDr (by kernel_rfl) (by kernel_rfl)|exact zDg (by kernel_rfl)|(simp;done)) (by omega)):zAo 12 (agg (zAY (zAD n cs i) 80)).box [] 0 (0+(l.getD i 0).toNat*(fun x=>x.size) Tryz.prog.types[128]+((zAd n).getD x.toNat 0).toNat*(fun x=>x.size) Tryz.prog.types[3]) 1=some (true,[I ((zAD n cs i).getD ((l.getD i 0).toNat*8+((zAd n).getD x.toNat 0).toNat) 0)])) an)<|zAp 3<|zMD 63 ((zAD n cs i).getD ((l.getD i 0).toNat*8+((zAd n).getD x.toNat 0).toNat) 0=x) (fun k3=>(S_g 19<|zB9<|zAj 2<|zAm<|E_a [] an (tup [bool false,I 0]) [] ?_ rfl)) (fun k3=>(zAp 3<|zIG 66 ((i:Int)>0) (by omega) (S_g 16<|zAB<|zAh<|zAb<|zAp 2<|S_a [(7,.ret (hdV (zB8 n (zAD n cs i))) [])] (ap (f101 n cs (zAD n cs i) (by omega) (by omega)) an)<|S_g 1<|zAb<|S_i i<|S_g 1 ?_)))
    ·rw[jA (by simp only[zNW,decide_eq_false (by assumption),cX])]
    ·exact rnd (i+1) ⟨by omega,yC (by simp only[zNW,decide_eq_true (by assumption),decide_eq_true jY];rfl)⟩ (by omega)
   ·by_cases hI:zDe n (l.getD (i-1) 0) (l.getD i 0)=true
    ·have vD:pr2 (l.getD (i-1) 0,l.getD i 0)∈n.l.map pr2:=by simpa only [zDe,decide_eq_true_eq] using hI
     obtain⟨j,hj,yQ⟩:=zOw vD;have jQ:zEN ((n.l.map pr2).map zDD) j=some (.bool true):=by
      have:j<n.l.length:=by simpa using hj
      simp[zEN,this]
     refine zAj 1<|zAc<|zAL ((i:Int)<(l.length:Int)) (by omega)<|zAh<|zAc<|zAg 2<|zAn 1<|S_a [(2,.v (I (l.getD i 0)))] (ap (zBN (0) (by omega):(map I l)[i]? = some (I (l.getD i 0))) an)<|S_g 3<|zAc<|zAn 5<|S_a [(0,.ob),(1,.ob),(0,.v ((I ((zAd n).getD x.toNat 0)).ref))] (ap ((by exact zAl (by omega)):decide (0<=x)=true)<|ap ((by exact zAl (by omega)):decide (x.toNat<8)=true)<|ap (zDE (F:=zAd n) (m:=8) (j:=x.toNat) (by omega):zBT (agg (zAY (zAd n) 8)).ref (x.toNat*(fun x=>x.size) Tryz.prog.types[3]) none=some (I ((zAd n).getD x.toNat 0)).ref) an)<|zAp 1<|S_a [(0,.ob),(1,.ob)] (ap ((by exact zAl (by omega)):decide (0<=l.getD i 0)=true)<|ap ((by exact zAl (by omega)):decide ((l.getD i 0).toNat<10)=true) an)<|S_a [(0,.ob),(1,.ob)] (ap ((by exact zAl (by omega)):decide (0<=(zAd n).getD x.toNat 0)=true)<|ap ((by exact zAl (by omega)):decide (((zAd n).getD x.toNat 0).toNat<8)=true) an)<|S_a [(0,.cs true ([I ((zAD n cs i).getD ((l.getD i 0).toNat*8+((zAd n).getD x.toNat 0).toNat) 0)]))] (ap (zB2 (q:=(agg (zAY (zAD n cs i) 80)).box) (xs:=[agg (zAY (zAD n cs i) 80)]) (x:=agg (zAY (zAD n cs i) 80)) rfl rfl (zD5 (F:=zAD n cs i) (m:=80) (j:=(l.getD i 0).toNat*8+((zAd n).getD x.toNat 0).toNat) (by first|rfl|exact zB7 (by kernel_rfl)|exact zB6 (by kernel_rfl)|exact zDl (by kernel_rfl) (by kernel_rfl)|exact zC0 (by kernel_rfl)|exact zDr (by kernel_rfl) (by kernel_rfl)|exact zDg (by kernel_rfl)|(simp;done)) (by omega)):zAo 12 (agg (zAY (zAD n cs i) 80)).box [] 0 (0+(l.getD i 0).toNat*(fun x=>x.size) Tryz.prog.types[128]+((zAd n).getD x.toNat 0).toNat*(fun x=>x.size) Tryz.prog.types[3]) 1=some (true,[I ((zAD n cs i).getD ((l.getD i 0).toNat*8+((zAd n).getD x.toNat 0).toNat) 0)])) an)<|zAp 3<|zMD 63 ((zAD n cs i).getD ((l.getD i 0).toNat*8+((zAd n).getD x.toNat 0).toNat) 0=x) (fun k3=>(S_g 19<|zB9<|zAj 2<|zAm<|E_a [] an (tup [bool false,I 0]) [] ?_ rfl)) (fun k3=>(zAp 3<|zPE 66 ((i:Int)>0) (by omega) (zAp 6<|S_a [(1,.v (I (↑(i-1):Int)))] (ap ((zCj (by omega) (by omega)):I (IntKind.i64.wrap ((i:Int)-1))=I (↑(i-1):Int)) an)<|S_a [(2,.v (I (l.getD (i-1) 0)))] (ap (zBN (0) (by omega):(map I l)[i-1]? = some (I (l.getD (i-1) 0))) an)<|zAp 3<|S_a [(6,.ret (prV (pr2 (l.getD (i-1) 0,l.getD i 0))) [])] (ap (f110 ((l.getD (i-1) 0,l.getD i 0))) an)<|S_a [(2,.ix (some j)),(0,.v (bool true))] (ap yQ<|ap (jQ:zEN (map zDD (map pr2 n.l)) j=some (bool true)) an)<|S_g 3<|zAB<|zAh<|zAb<|zAp 2<|S_a [(7,.ret (hdV (zB8 n (zAD n cs i))) [])] (ap (f101 n cs (zAD n cs i) (by omega) (by omega)) an)<|S_g 1<|zAb<|S_i i<|S_g 1 ?_)))
     ·rw[jA (by simp only[zNW,decide_eq_false (by assumption),cX])]
     ·exact rnd (i+1) ⟨by omega,yC (by simp only[zNW,decide_eq_true (by assumption),hI,Bool.or_true];rfl)⟩ (by omega)
    ·have vD:pr2 (l.getD (i-1) 0,l.getD i 0)∉n.l.map pr2:=by simpa only [zDe,decide_eq_true_eq] using hI
     have yQ:=zIV vD;rw[cu] at hI;refine zAj 1<|zAc<|zAL ((i:Int)<(l.length:Int)) (by omega)<|zAh<|zAc<|zAg 2<|zAn 1<|S_a [(2,.v (I (l.getD i 0)))] (ap (zBN (0) (by omega):(map I l)[i]? = some (I (l.getD i 0))) an)<|S_g 3<|zAc<|zAn 5<|S_a [(0,.ob),(1,.ob),(0,.v ((I ((zAd n).getD x.toNat 0)).ref))] (ap ((by exact zAl (by omega)):decide (0<=x)=true)<|ap ((by exact zAl (by omega)):decide (x.toNat<8)=true)<|ap (zDE (F:=zAd n) (m:=8) (j:=x.toNat) (by omega):zBT (agg (zAY (zAd n) 8)).ref (x.toNat*(fun x=>x.size) Tryz.prog.types[3]) none=some (I ((zAd n).getD x.toNat 0)).ref) an)<|zAp 1<|S_a [(0,.ob),(1,.ob)] (ap ((by exact zAl (by omega)):decide (0<=l.getD i 0)=true)<|ap ((by exact zAl (by omega)):decide ((l.getD i 0).toNat<10)=true) an)<|S_a [(0,.ob),(1,.ob)] (ap ((by exact zAl (by omega)):decide (0<=(zAd n).getD x.toNat 0)=true)<|ap ((by exact zAl (by omega)):decide (((zAd n).getD x.toNat 0).toNat<8)=true) an)<|S_a [(0,.cs true ([I ((zAD n cs i).getD ((l.getD i 0).toNat*8+((zAd n).getD x.toNat 0).toNat) 0)]))] (ap (zB2 (q:=(agg (zAY (zAD n cs i) 80)).box) (xs:=[agg (zAY (zAD n cs i) 80)]) (x:=agg (zAY (zAD n cs i) 80)) rfl rfl (zD5 (F:=zAD n cs i) (m:=80) (j:=(l.getD i 0).toNat*8+((zAd n).getD x.toNat 0).toNat) (by first|rfl|exact zB7 (by kernel_rfl)|exact zB6 (by kernel_rfl)|exact zDl (by kernel_rfl) (by kernel_rfl)|exact zC0 (by kernel_rfl)|exact zDr (by kernel_rfl) (by kernel_rfl)|exact zDg (by kernel_rfl)|(simp;done)) (by omega)):zAo 12 (agg (zAY (zAD n cs i) 80)).box [] 0 (0+(l.getD i 0).toNat*(fun x=>x.size) Tryz.prog.types[128]+((zAd n).getD x.toNat 0).toNat*(fun x=>x.size) Tryz.prog.types[3]) 1=some (true,[I ((zAD n cs i).getD ((l.getD i 0).toNat*8+((zAd n).getD x.toNat 0).toNat) 0)])) an)<|zAp 3<|zMD 63 ((zAD n cs i).getD ((l.getD i 0).toNat*8+((zAd n).getD x.toNat 0).toNat) 0=x) (fun k3=>(S_g 19<|zB9<|zAj 2<|zAm<|E_a [] an (tup [bool false,I 0]) [] ?_ rfl)) (fun k3=>(zAp 3<|zPE 66 ((i:Int)>0) (by omega) (zAp 6<|S_a [(1,.v (I (↑(i-1):Int)))] (ap ((zCj (by omega) (by omega)):I (IntKind.i64.wrap ((i:Int)-1))=I (↑(i-1):Int)) an)<|S_a [(2,.v (I (l.getD (i-1) 0)))] (ap (zBN (0) (by omega):(map I l)[i-1]? = some (I (l.getD (i-1) 0))) an)<|zAp 3<|S_a [(6,.ret (prV (pr2 (l.getD (i-1) 0,l.getD i 0))) [])] (ap (f110 ((l.getD (i-1) 0,l.getD i 0))) an)<|S_a [(2,.ix none)] (ap yQ an)<|S_g 3<|zB9<|zAj 2<|zAm<|E_a [] an (tup [bool false,I 0]) [] ?_ rfl)))
     ·rw[jA (by simp only[zNW,decide_eq_false (by assumption),cX])]
     ·rw[jA (by simp only[zNW,hI,decide_eq_false jY,ie,dO])]
  ·refine zAj 1<|zAc<|zAS ((i:Int)<(l.length:Int)) (by omega)<|zAG 1<|zAj 2<|zAm<|E_a [] an (tup [bool true,I 0]) [] ?_ rfl
   have:(range l.length).all (zNW n cs l ((zAd n).getD x.toNat 0).toNat x)=true:=by
    simp only[bj,bC];exact fun j hj=>ha j (by omega)
   rw[this]
end Go.Eng
namespace Go.Eng
open Go Go.Proofs
theorem zRq{n:Nw}{a b:Int}:zDe n a b=zDe n b a:=by
 unfold zDe;have:pr2 (a,b)=pr2 (b,a):=by
  simp only[pr2,bw];constructor
  ·repeat' split
   all_goals omega
  ·repeat' split
   all_goals omega
 rw[this]
structure BkOk (n:Nw) (cs:LP) (c:Nat) (x:Int) (m:Nat) (out:LI):Prop where
 pos:0<out.length
 rng:∀ i,i<out.length->0<=out.getD i 0/\out.getD i 0<n.h
 at_:∀ i,i<out.length->(zAD n cs (m+i)).getD ((out.getD i 0).toNat*8+c) 0=x
 nb:∀ i,i+1<out.length->zDe n (out.getD i 0) (out.getD (i+1) 0)=true
 no:∀ m',m=m'+1->(zAD n cs m').getD ((out.getD 0 0).toNat*8+c) 0≠x
theorem zXx{n:Nw}{cs:LP}{c:Nat}{x:Int}(ho:NwOk n)(hc:c<8){m:Nat}{out:LI}(hb:BkOk n cs c x (m+1) out):∃ o:Nat,((zG4 n (out.getD 0 0).toNat n.h.toNat).find? fun o=>decide ((zAD n cs m).getD (o*8+c) 0=x))=some o/\BkOk n cs c x m ((o:Int)::out):=by
 have hr:=hb.rng 0 hb.pos;have ha:=hb.at_ 0 hb.pos;have jA:=hb.no m rfl;generalize hd:(out.getD 0 0).toNat=d at *;have hdl:d<n.h.toNat:=by omega
 have vb:=zUT (n:=n) (cs:=cs) ho (e:=m) (k:=m+1) (d*8+c) (by omega);have hge:=fun v:Int=>zDK ho (zBr (n:=n) (cs:=cs) m) hdl hc (v:=v);rw[bL] at ha;have qr:∃ o∈zG4 n d n.h.toNat,decide ((zAD n cs m).getD (o*8+c) 0=x)=true:=by
  rcases(hge x).1 (Int.le_of_eq ha.symm) with h1|⟨o,h1,h2⟩
  ·rw[ha] at vb;exact absurd (iE vb h1) jA
  ·refine⟨o,h1,decide_eq_true ?_⟩;have h3:=(hge ((zAD n cs m).getD (o*8+c) 0)).2 (.inr ⟨o,h1,dj _⟩);have h4:(zB8 n (zAD n cs m)).getD (d*8+c) 0=x:=ha;rw[h4] at h3;exact iE h3 h2
 obtain⟨o,hf⟩:=dE.1 (List.find?_isSome.2 qr);have hp:=List.find?_some hf;have hm:=List.mem_of_find?_eq_some hf;obtain⟨hm1,vG⟩:=bP.1 hm;have qS:=bC.1 hm1;have hax:(zAD n cs m).getD (o*8+c) 0=x:=of_decide_eq_true hp;refine⟨o,hf,by simp,fun i hi=>?_,fun i hi=>?_,fun i hi=>?_,fun m' hm'=>?_⟩
 ·cases i with
  |zero=>simp only[fa];omega|succ i=>simpa using hb.rng i (by simpa using hi)
 ·cases i with
  |zero=>simpa using hax|succ i=>
   have:=hb.at_ i (by simpa using hi);rw[show m+1+i=m+(i+1) by omega] at this;simpa using this
 ·cases i with
  |zero=>
   simp only[fa,List.getD_cons_succ];rw[zRq,<- vG];congr 1;omega
  |succ i=>simpa using hb.nb i (by simpa using hi)
 ·subst hm';simp only[fa,bQ];intro he;have h1:=(zDK ho (zBr (n:=n) (cs:=cs) m') hdl hc (v:=x)).2 (.inr ⟨o,hm,Int.le_of_eq he.symm⟩);have h2:x<=(zAD n cs (m'+1)).getD (d*8+c) 0:=h1;rw[ha] at vb;exact jA (iE vb h2)
theorem zYa{n:Nw}{cs:LP}{c:Nat}{x:Int}(ho:NwOk n)(hc:c<8):∀ m {out:LI},BkOk n cs c x m out->BkOk n cs c x 0 (bkL n cs c x m out)/\(bkL n cs c x m out).length=m+out.length/\(bkL n cs c x m out).getLast? = out.getLast?
 |0,out,hb=>⟨hb,by simp[bkL],rfl⟩|m+1,out,hb=>by
  obtain⟨o,hf,jS⟩:=zXx ho hc hb;have h1:=hb.pos;rw[bkL,hf];obtain⟨h2,h3,h4⟩:=zYa ho hc m jS;refine⟨h2,by rw[h3,b9];omega,?_⟩;rw[h4]
  cases out with
  |nil=>cases h1|cons a l=>rw[List.getLast?_cons_cons]
theorem zWC{n:Nw}{cs:LP}{h x:Int}{k:Nat}(ho:NwOk n)(hh:0<=h/\h<n.h)(hx:0<=x/\x<n.n.length)(hk:k<=12)(jQ:(zAD n cs k).getD (h.toNat*8+((zAd n).getD x.toNat 0).toNat) 0=x)(hm:∀ j,j<k->(zAD n cs j).getD (h.toNat*8+((zAd n).getD x.toNat 0).toNat) 0≠x) :
  psB n cs (bkL n cs ((zAd n).getD x.toNat 0).toNat x k [h]) x=true/\(bkL n cs ((zAd n).getD x.toNat 0).toNat x k [h]).length=k+1/\(bkL n cs ((zAd n).getD x.toNat 0).toNat x k [h]).getLast? = some h:=by
 have h8:=ho.nl.2;have hf:=zBk ho x.toNat (by omega);have yN:∀ i,i < [h].length->i=0:=fun i hi=>by simpa using hi
 have ql:BkOk n cs ((zAd n).getD x.toNat 0).toNat x k [h]:=by
  refine⟨by simp,fun i hi=>?_,fun i hi=>?_,fun i hi=>?_,fun m' hm'=>?_⟩
  ·rw[yN i hi];simpa using hh
  ·rw[yN i hi];simpa using jQ
  ·simp at hi
  ·exact hm m' (by omega)
 obtain⟨h1,h2,h3⟩:=zYa ho (by omega) k ql;refine⟨?_,h2,by rw[h3];rfl⟩;generalize bkL n cs ((zAd n).getD x.toNat 0).toNat x k [h]=R at *;simp only[b9,cN] at h2;simp only[psB,bb,bj,bC,inB,decide_eq_true_eq,zNW,bV];refine⟨⟨by omega,fun y hy=>?_⟩,fun i hi=>⟨?_,?_⟩⟩
 ·obtain⟨i,hi,rfl⟩:=dv hy;have:=h1.rng i hi;rw[zAr hi] at this;omega
 ·have:=h1.at_ i hi;rwa[dh] at this
 ·cases i with
  |zero=>exact .inl rfl|succ i=>exact .inr (h1.nb i hi)
end Go.Eng
set_option maxHeartbeats 1000000
namespace Go.Eng
open Go
theorem zUX{p:Nat->Prop}:∀ e:Nat,p e->∃ k,k<=e/\p k/\∀ j,j<k->¬ p j:=by
 intro e
 induction e using Nat.strongRecOn with
 |_ e ih=>
  intro h;by_cases hx:∃ j,j<e/\p j
  ·obtain⟨j,h1,h2⟩:=hx;obtain⟨k,g1,g2,g3⟩:=ih j h1 h2;exact⟨k,by omega,g2,g3⟩
  ·exact⟨e,bi e,h,fun j hj hp=>hx ⟨j,hj,hp⟩⟩
theorem zLd{n:Nw}{i j s:Int}{c:Nat}(h1:CrW n [(i,s)])(h2:CrW n [(j,s)])(hc:c<8)(wu:(zAd n).getD i.toNat 0=(zAd n).getD j.toNat 0):∀ e h,h<n.h.toNat->(zKJ n (i,s) e h c->zKJ n (j,s) e h c)
 | 0,h,hh=>by
  have ha:=h1.cs _ (bl.2 rfl);have hb:=h2.cs _ (bl.2 rfl);simp only at ha hb;unfold zKJ;show 0<=(zIi n [(i,s)]).getD (h*8+c) 0->0<=(zIi n [(j,s)]).getD (h*8+c) 0
  rw[(zFE h1).ge hh hc,(zFE h2).ge hh hc];rintro(g|⟨y,g1,g2,g3,g4⟩)
  ·omega
  ·obtain⟨d,d1,d2⟩:=bN.1 g3;rw[bl.1 d1] at d2;simp only[hrB,bb,decide_eq_true_eq] at d2;refine .inr ⟨j.toNat,by omega,?_,?_,by omega⟩
   ·rw[<- wu,d2.1];simpa using g2
   ·refine bN.2 ⟨(j,s),bl.2 rfl,?_⟩;simp only[hrB,bb,decide_eq_true_eq];exact⟨by omega,d2.2⟩
 |e+1,h,hh=>by
  have ih:=zLd h1 h2 hc wu e;unfold zKJ at *;show 0<=(zB8 n (zAD n [(i,s)] e)).getD (h*8+c) 0->0<=(zB8 n (zAD n [(j,s)] e)).getD (h*8+c) 0
  rw[zDK h1.nw (zBr e) hh hc,zDK h1.nw (zBr e) hh hc];rintro(g|⟨o,g1,g2⟩)
  ·exact .inl (ih h hh g)
  ·exact .inr ⟨o,g1,ih o (zH7 g1) g2⟩
theorem zRu{n:Nw}{cs:LP}{i s:Int}{e h x:Nat}(ho:CrW n (cs++[(i,s)]))(hh:h<n.h.toNat)(hx:x<n.n.length)(hg:((h:Int),(x:Int))∈zFb n (zAD n (cs++[(i,s)]) e) (zAV n (zAD n cs e))):zKJ n (i,s) e h ((zAd n).getD x 0).toNat:=by
 have hN:=ho.nw;have h8:=hN.nl;have hf:=zBk hN x hx;obtain⟨jh,u6⟩:=bP.1 hg;have hb:=(zHW hh hx).1 jh;simp only[zIX,bb,decide_eq_true_eq] at hb;simp only[zVM,bQ,decide_eq_true_eq] at u6;have hu:=fun v=>zEu (zCn ho).1 (zCn ho).2 ho (c:=((zAd n).getD x 0).toNat) (by omega) e h v hh;have u1:=(hu x).2 (.inl (by omega));unfold zKJ;rcases(hu ((zAD n (cs++[(i,s)]) e).getD (h*8+((zAd n).getD x 0).toNat) 0)).1 (dj _) with u2|u2
 ·omega
 ·omega
theorem zR6{n:Nw}{cs:LP}{e:Nat}{st:LI}(ho:CrW n cs)(yO:cs.length<=16)(yW:∀ s∈st,0<=s/\s<n.s.length) :
  zQy n cs e st n.n.length=true↔zWn n cs e (zAV n (zAD n cs e)) st=[]:=by
 have hN:=ho.nw;have gl:∀ (j s:Int),0<=j/\j<n.n.length->s∈st->CrW n (cs++[(j,s)]):=fun j s hj hs=>zPZ ho (by omega) ⟨hj,yW s hs⟩;constructor
 ·intro yE;simp only[zQy,bj,bC,bV,bD] at yE;refine iK.2 fun g hg=>?_;obtain⟨h,x,hh,hx,rfl,hb⟩:=zFQ hg;have hf:=zBk hN x hx;have hff:=zKv hN x hx;obtain⟨i,hi⟩:∃ i:Nat,(zAd n).getD x 0=i:=⟨((zAd n).getD x 0).toNat,by omega⟩;have hiN:i<n.n.length:=by omega
  rw[hi,bQ] at hff;have hib:fwB n i=true:=decide_eq_true hff;have ud:(fwR n cs e st i).1=true:=by
   rcases yE i hiN with h|h
   ·rw[hib] at h;cases h
   ·exact h
  obtain⟨h1,h2⟩:=zSU ud;obtain⟨c,hc,vr⟩:=h2 ((h:Int),(x:Int)) (bP.2 ⟨hg,by simp only[bQ,hi];simp⟩);obtain⟨s,hs,rfl⟩:=bT.1 (h1 c hc);obtain⟨l,a1,a2,_⟩:=zCC hN hiN;rw[bD,Bool.eq_false_iff,ne_eq,fk,bN];refine⟨zFb n (zAD n (cs++[((l:Int),s)]) e) (zAV n (zAD n cs e)),?_,?_⟩
  ·simp only[zY2,cT,bC,bT];exact⟨l,a2,s,hs,rfl⟩
  ·rw[a1] at vr;exact vr
 ·intro jA;simp only[zQy,bj,bC,bV,bD];intro i hi
  cases hb:fwB n i with
  |false=>exact .inl rfl|true=>
   refine .inr ?_;have qm:=of_decide_eq_true hb;have hR:=zSu (zGA ((zAA n).getD i 0) st) (zFF (zQD n cs e (zAV n (zAD n cs e)) ((zAA n).getD i 0))) ((ofL n i (zAV n (zAD n cs e))).length+1) [] (ofL n i (zAV n (zAD n cs e))) (false,[]) (by omega);refine(hR.best (zGA ((zAA n).getD i 0) st) ⟨fun c hc=>hc,fun g hg=>?_⟩).1;obtain⟨jh,u6⟩:=bP.1 hg;simp only[bD,decide_eq_false_iff_not,fk] at u6;obtain⟨h,x,hh,hx,rfl,hgb⟩:=zFQ jh;rw[bQ] at u6;have hf:=zBk hN x hx;have h8:=hN.nl;have yC:=(iK.1 jA) _ jh;rw[bD,Bool.eq_false_iff,ne_eq,fk,bN] at yC;obtain⟨r,qJ,uF⟩:=yC;simp only[zY2,cT,bC,bT] at qJ;obtain⟨j,hj,s,hs,rfl⟩:=qJ;rw[zTx] at uF;have hwj:=gl j s ⟨by omega,by omega⟩ hs;have hre:=zRu hwj hh hx uF;have hcj:=zRI hwj uF;simp only[bQ] at hcj;obtain⟨l,a1,a2,a3,_⟩:=zCC hN hi;have wx:=gl l s ⟨by omega,by omega⟩ hs;unfold chn at a3;have hlx:(zAA n).getD x 0=(l:Int):=by rw[<- a1];exact(zLj hN hx hi).2 (by rw[u6,qm])
   refine⟨((zAA n).getD i 0,s),bT.2 ⟨s,hs,rfl⟩,?_⟩;rw[a1];refine(zOD wx hh hx hlx hgb).2 (zLd (zCn hwj).2 (zCn wx).2 (by omega) ?_ e h hh hre);simp only[bQ];omega
def zH1(n:Nw)(h:Nat)(l:LI):LP:=(l.filter fun x=>decide ((zAA n).getD x.toNat 0≠x)).map fun x=>((h:Int),x)
theorem zVB{n:Nw}{cs:LP}{e h:Nat}:zH1 n h (hoL n cs e h)=zN2 n (zAD n cs e) h n.n.length:=by
 unfold zH1 hoL zEf zN2;rw[List.filter_map,fT,List.filter_filter];have e1:((range n.n.length).filter fun a=>((fun x:Int=>decide ((zAA n).getD x.toNat 0≠x)) ∘ fun i:Nat=>(i:Int)) a&&hld n (zAD n cs e) h a)=(range n.n.length).filter fun i=>zIX n (zAD n cs e) h i:=by
  refine ii fun i _=>?_;simp only[Function.comp,bQ,zIX,hld];rw[Bool.and_comm]
 rw[e1];exact dJ fun i _=>rfl
theorem zVG{n:Nw}{cs:LP}{e:Nat}:(range n.h.toNat).flatMap (fun h=>zH1 n h (hoL n cs e h))=zAV n (zAD n cs e):=by
 simp only[zVB];rfl
theorem zSp{n:Nw}{cs:LP}{e h:Nat}(hg:zAV n (zAD n cs e)=[])(hh:h<n.h.toNat):((hoL n cs e h).any fun x=>decide ((zAA n).getD x.toNat 0≠x))=false:=by
 rw[cV];intro x hx;rw[decide_eq_true_eq];intro hI;obtain⟨i,h1,h2,rfl⟩:=zLW.1 hx;have:((h:Int),(i:Int))∈zAV n (zAD n cs e):=(zHW hh h1).2 (by simp only[zIX,bb,decide_eq_true_eq];exact⟨h2,by simpa using hI⟩);rw[hg] at this;simp at this
theorem zXr{n:Nw}{cs:LP}{l:LI}{x:Int}(hN:NwOk n)(hx:0<=x/\x<n.n.length)(hp:psB n cs l x=true):∀ i,i<l.length->(0<=l.getD i 0/\l.getD i 0<n.h)/\(i=0\/zDe n (l.getD (i-1) 0) (l.getD i 0)=true)/\has (hoL n cs i (l.getD i 0).toNat) x=true:=by
 intro i hi;simp only[psB,bb,bj,bC] at hp;obtain⟨⟨_,h2⟩,h3⟩:=hp;have hm:l.getD i 0∈l:=by rw[zAr hi];exact cC hi
 have hr:=zEn (h2 _ hm);have h4:=h3 i hi;simp only[zNW,bb,bV,decide_eq_true_eq] at h4;refine⟨by omega,h4.2,?_⟩;rw[zSW,decide_eq_true_eq];refine zLW.2 ⟨x.toNat,by omega,?_,by omega⟩;rw[h4.1];omega
end Go.Eng
namespace Go.Eng
open Go Go.Proofs
abbrev u8(n:Int):PV := .int .u8 n
abbrev u32(n:Int):PV := .int .u32 n
abbrev zCi(l:LI)(a:Nat)(t:Int):PV := .box (.agg [.sl (l.map u8),I a,u32 t])
abbrev zQA:PV := .addr 50000000 [] 0 0 (some 3)
def zD8(l:LI)(a:Nat):Prop:=a<=l.length/\l.length<9223372036854775808
def zGM(l:LI)(a:Nat):Nat:=if a=l.length then 0 else a
def zA1(l:LI)(a:Nat)(t:Int):Int:=if a=l.length then IntKind.u32.wrap (t+1) else t
def zAN(l:LI)(a:Nat):Nat:=if 0<l.length then zGM l a+1 else zGM l a
theorem zCQ{l:LI}{a:Nat}(h:zD8 l a):zD8 l (zAN l a):=by
 obtain⟨h1,h2⟩:=h;refine⟨?_,h2⟩;unfold zAN zGM
 repeat' split
 all_goals omega
def zQU(n:Int):Int:=IntKind.u32.wrap ↑(BitVec.ofInt IntKind.u32.bits (IntKind.u32.wrap ↑(BitVec.ofInt IntKind.u32.bits n ^^^ BitVec.ofInt IntKind.u32.bits (n.fdiv (2 ^ min (Int.toNat 7) IntKind.u32.bits))).toNat) &&& BitVec.ofInt IntKind.u32.bits 65535).toNat
theorem zQe(n:Int):0<=zQU n/\zQU n<=65535:=by
 unfold zQU;generalize BitVec.ofInt IntKind.u32.bits (IntKind.u32.wrap ↑(BitVec.ofInt IntKind.u32.bits n ^^^ BitVec.ofInt IntKind.u32.bits (n.fdiv (2 ^ min (Int.toNat 7) IntKind.u32.bits))).toNat)=x;have h:(x &&& BitVec.ofInt IntKind.u32.bits 65535).toNat<=65535:=by
  rw[BitVec.toNat_and];exact bF Nat.and_le_right (by decide)
 generalize (x &&& BitVec.ofInt IntKind.u32.bits 65535).toNat=m at h;have:IntKind.u32.wrap (m:Int)=m:=by
  simp only[IntKind.wrap];simp[IntKind.signed,IntKind.bits];omega
 rw[this];omega
def zHY(l:LI)(a:Nat)(t:Int):Int:=zQU (if 0<l.length then IntKind.u32.wrap (IntKind.u32.wrap (30011*zA1 l a t)+IntKind.u32.wrap (263*IntKind.u32.wrap (l.getD (zGM l a) 0))) else IntKind.u32.wrap (30011*zA1 l a t))
theorem zUx(l:LI)(a:Nat)(t:Int):0<=zHY l a t/\zHY l a t<=65535:=zQe _
def zAy(l:LI)(a:Nat)(t:Int)(n:Int):Int:=(zHY l a t).tmod (max 1 (n+1))
theorem zCR(l:LI)(a:Nat)(t:Int)(n:Int):0<=zAy l a t n/\zAy l a t n<=max 0 n:=by
 have h1:=zUx l a t;have h2:0<max 1 (n+1):=by omega
 have h3:=Int.tmod_nonneg (max 1 (n+1)) h1.1;have h4:=Int.tmod_lt_of_pos (zHY l a t) h2;unfold zAy;omega
section
variable [Yo]
theorem f49(l:LI):FG 49 [.sl (l.map u8)] (zCi l 0 0):=by
 refine zAe Tryz.f49 ?_;refine zAj 1<|zAj 4<|zAm E_0
theorem f175(l:LI)(a:Nat)(t:Int)(h:zD8 l a):zBM Tryz.prog zCG 175 [zQA] [zCi l a t] (I (zHY l a t)) [zCi l (zAN l a) (zA1 l a t)]:=by
 refine zAe Tryz.f175 ?_;have h1:=h.1;have h2:=h.2;have hb:∀ n,-9223372036854775808<=zQU n/\zQU n<9223372036854775808:=fun n=>by have:=zQe n;omega
 refine zAj 1<|zAc<|zAn 8<|S_a [(0,.n l.length)] (ap (lnS u8 l) an)<|S_g 1<|zC4 ((a:Int)=(l.length:Int)) (fun k0=>(zAb<|zAp 6<|zAp 1<|S_g 6<|zAn 3<|zAp 1<|zAp 1<|S_g 1<|zAc<|zAn 4<|S_a [(0,.n l.length)] (ap (lnS u8 l) an)<|S_g 1<|zC4 ((l.length:Int)>0) (fun k1=>(zAn 9<|S_a [(2,.v (int IntKind.u8 (l.getD 0 0)))] (ap (zBN (0) (by omega):(map u8 l)[0]? = some (int IntKind.u8 (l.getD 0 0))) an)<|zAp 1<|zAp 1<|zAp 1<|zAp 1<|S_g 1<|zAb<|S_g 8<|zAn 2<|zAp 1<|zAp 1<|zAp 1<|S_a [(0,.v (I (IntKind.u32.wrap (↑(BitVec.ofInt IntKind.u32.bits (IntKind.u32.wrap (↑(BitVec.ofInt IntKind.u32.bits (IntKind.u32.wrap (IntKind.u32.wrap (30011*IntKind.u32.wrap (t+1))+IntKind.u32.wrap (263*IntKind.u32.wrap (l.getD 0 0)))) ^^^ BitVec.ofInt IntKind.u32.bits ((IntKind.u32.wrap (IntKind.u32.wrap (30011*IntKind.u32.wrap (t+1))+IntKind.u32.wrap (263*IntKind.u32.wrap (l.getD 0 0)))).fdiv (2 ^ min (Int.toNat 7) IntKind.u32.bits))).toNat:Int)) &&& BitVec.ofInt IntKind.u32.bits 65535).toNat:Int))))] (ap ((zCj rfl ?_):I (IntKind.i64.wrap (IntKind.u32.wrap (↑(BitVec.ofInt IntKind.u32.bits (IntKind.u32.wrap (↑(BitVec.ofInt IntKind.u32.bits (IntKind.u32.wrap (IntKind.u32.wrap (30011*IntKind.u32.wrap (t+1))+IntKind.u32.wrap (263*IntKind.u32.wrap (l.getD 0 0)))) ^^^ BitVec.ofInt IntKind.u32.bits ((IntKind.u32.wrap (IntKind.u32.wrap (30011*IntKind.u32.wrap (t+1))+IntKind.u32.wrap (263*IntKind.u32.wrap (l.getD 0 0)))).fdiv (2 ^ min (Int.toNat 7) IntKind.u32.bits))).toNat:Int)) &&& BitVec.ofInt IntKind.u32.bits 65535).toNat:Int)))=I (IntKind.u32.wrap (↑(BitVec.ofInt IntKind.u32.bits (IntKind.u32.wrap (↑(BitVec.ofInt IntKind.u32.bits (IntKind.u32.wrap (IntKind.u32.wrap (30011*IntKind.u32.wrap (t+1))+IntKind.u32.wrap (263*IntKind.u32.wrap (l.getD 0 0)))) ^^^ BitVec.ofInt IntKind.u32.bits ((IntKind.u32.wrap (IntKind.u32.wrap (30011*IntKind.u32.wrap (t+1))+IntKind.u32.wrap (263*IntKind.u32.wrap (l.getD 0 0)))).fdiv (2 ^ min (Int.toNat 7) IntKind.u32.bits))).toNat:Int)) &&& BitVec.ofInt IntKind.u32.bits 65535).toNat:Int))) an)<|S_g 1<|zAm<|E_a [] an (I (IntKind.u32.wrap (↑(BitVec.ofInt IntKind.u32.bits (IntKind.u32.wrap (↑(BitVec.ofInt IntKind.u32.bits (IntKind.u32.wrap (IntKind.u32.wrap (30011*IntKind.u32.wrap (t+1))+IntKind.u32.wrap (263*IntKind.u32.wrap (l.getD 0 0)))) ^^^ BitVec.ofInt IntKind.u32.bits ((IntKind.u32.wrap (IntKind.u32.wrap (30011*IntKind.u32.wrap (t+1))+IntKind.u32.wrap (263*IntKind.u32.wrap (l.getD 0 0)))).fdiv (2 ^ min (Int.toNat 7) IntKind.u32.bits))).toNat:Int)) &&& BitVec.ofInt IntKind.u32.bits 65535).toNat:Int))) ([(agg [sl (map u8 l),I (IntKind.i64.wrap (0+1)),int IntKind.u32 (IntKind.u32.wrap (t+1))]).box]) ?_ ?_)) (fun k1=>(zAh<|zAn 2<|zAp 1<|zAp 1<|zAp 1<|S_a [(0,.v (I (IntKind.u32.wrap (↑(BitVec.ofInt IntKind.u32.bits (IntKind.u32.wrap (↑(BitVec.ofInt IntKind.u32.bits (IntKind.u32.wrap (30011*IntKind.u32.wrap (t+1))) ^^^ BitVec.ofInt IntKind.u32.bits ((IntKind.u32.wrap (30011*IntKind.u32.wrap (t+1))).fdiv (2 ^ min (Int.toNat 7) IntKind.u32.bits))).toNat:Int)) &&& BitVec.ofInt IntKind.u32.bits 65535).toNat:Int))))] (ap ((zCj rfl ?_):I (IntKind.i64.wrap (IntKind.u32.wrap (↑(BitVec.ofInt IntKind.u32.bits (IntKind.u32.wrap (↑(BitVec.ofInt IntKind.u32.bits (IntKind.u32.wrap (30011*IntKind.u32.wrap (t+1))) ^^^ BitVec.ofInt IntKind.u32.bits ((IntKind.u32.wrap (30011*IntKind.u32.wrap (t+1))).fdiv (2 ^ min (Int.toNat 7) IntKind.u32.bits))).toNat:Int)) &&& BitVec.ofInt IntKind.u32.bits 65535).toNat:Int)))=I (IntKind.u32.wrap (↑(BitVec.ofInt IntKind.u32.bits (IntKind.u32.wrap (↑(BitVec.ofInt IntKind.u32.bits (IntKind.u32.wrap (30011*IntKind.u32.wrap (t+1))) ^^^ BitVec.ofInt IntKind.u32.bits ((IntKind.u32.wrap (30011*IntKind.u32.wrap (t+1))).fdiv (2 ^ min (Int.toNat 7) IntKind.u32.bits))).toNat:Int)) &&& BitVec.ofInt IntKind.u32.bits 65535).toNat:Int))) an)<|S_g 1<|zAm<|E_a [] an (I (IntKind.u32.wrap (↑(BitVec.ofInt IntKind.u32.bits (IntKind.u32.wrap (↑(BitVec.ofInt IntKind.u32.bits (IntKind.u32.wrap (30011*IntKind.u32.wrap (t+1))) ^^^ BitVec.ofInt IntKind.u32.bits ((IntKind.u32.wrap (30011*IntKind.u32.wrap (t+1))).fdiv (2 ^ min (Int.toNat 7) IntKind.u32.bits))).toNat:Int)) &&& BitVec.ofInt IntKind.u32.bits 65535).toNat:Int))) ([(agg [sl (map u8 l),I 0,int IntKind.u32 (IntKind.u32.wrap (t+1))]).box]) ?_ ?_)))) (fun k0=>(zAh<|zAn 4<|zAp 1<|S_g 1<|zAc<|zAn 4<|S_a [(0,.n l.length)] (ap (lnS u8 l) an)<|S_g 1<|zAL ((l.length:Int)>0) (by omega)<|zAn 9<|S_a [(2,.v (int IntKind.u8 (l.getD a 0)))] (ap (zBN (0) (by omega):(map u8 l)[a]? = some (int IntKind.u8 (l.getD a 0))) an)<|zAp 1<|zAp 1<|zAp 1<|zAp 1<|S_g 1<|zAb<|zAp 4<|S_i a<|S_g 3<|zAn 2<|zAp 1<|zAp 1<|zAp 1<|S_a [(0,.v (I (IntKind.u32.wrap (↑(BitVec.ofInt IntKind.u32.bits (IntKind.u32.wrap (↑(BitVec.ofInt IntKind.u32.bits (IntKind.u32.wrap (IntKind.u32.wrap (30011*t)+IntKind.u32.wrap (263*IntKind.u32.wrap (l.getD a 0)))) ^^^ BitVec.ofInt IntKind.u32.bits ((IntKind.u32.wrap (IntKind.u32.wrap (30011*t)+IntKind.u32.wrap (263*IntKind.u32.wrap (l.getD a 0)))).fdiv (2 ^ min (Int.toNat 7) IntKind.u32.bits))).toNat:Int)) &&& BitVec.ofInt IntKind.u32.bits 65535).toNat:Int))))] (ap ((zCj rfl ?_):I (IntKind.i64.wrap (IntKind.u32.wrap (↑(BitVec.ofInt IntKind.u32.bits (IntKind.u32.wrap (↑(BitVec.ofInt IntKind.u32.bits (IntKind.u32.wrap (IntKind.u32.wrap (30011*t)+IntKind.u32.wrap (263*IntKind.u32.wrap (l.getD a 0)))) ^^^ BitVec.ofInt IntKind.u32.bits ((IntKind.u32.wrap (IntKind.u32.wrap (30011*t)+IntKind.u32.wrap (263*IntKind.u32.wrap (l.getD a 0)))).fdiv (2 ^ min (Int.toNat 7) IntKind.u32.bits))).toNat:Int)) &&& BitVec.ofInt IntKind.u32.bits 65535).toNat:Int)))=I (IntKind.u32.wrap (↑(BitVec.ofInt IntKind.u32.bits (IntKind.u32.wrap (↑(BitVec.ofInt IntKind.u32.bits (IntKind.u32.wrap (IntKind.u32.wrap (30011*t)+IntKind.u32.wrap (263*IntKind.u32.wrap (l.getD a 0)))) ^^^ BitVec.ofInt IntKind.u32.bits ((IntKind.u32.wrap (IntKind.u32.wrap (30011*t)+IntKind.u32.wrap (263*IntKind.u32.wrap (l.getD a 0)))).fdiv (2 ^ min (Int.toNat 7) IntKind.u32.bits))).toNat:Int)) &&& BitVec.ofInt IntKind.u32.bits 65535).toNat:Int))) an)<|S_g 1<|zAm<|E_a [] an (I (IntKind.u32.wrap (↑(BitVec.ofInt IntKind.u32.bits (IntKind.u32.wrap (↑(BitVec.ofInt IntKind.u32.bits (IntKind.u32.wrap (IntKind.u32.wrap (30011*t)+IntKind.u32.wrap (263*IntKind.u32.wrap (l.getD a 0)))) ^^^ BitVec.ofInt IntKind.u32.bits ((IntKind.u32.wrap (IntKind.u32.wrap (30011*t)+IntKind.u32.wrap (263*IntKind.u32.wrap (l.getD a 0)))).fdiv (2 ^ min (Int.toNat 7) IntKind.u32.bits))).toNat:Int)) &&& BitVec.ofInt IntKind.u32.bits 65535).toNat:Int))) ([(agg [sl (map u8 l),I (↑(a+1):Int),int IntKind.u32 t]).box]) ?_ ?_))
 ·exact hb _
 ·have e1:a=l.length:=by omega
  have e2:0<l.length:=by omega
  simp only[zHY,zGM,zA1,e1,e2,if_true];rfl
 ·have e1:a=l.length:=by omega
  have e2:0<l.length:=by omega
  simp only[zAN,zGM,zA1,e1,e2,if_true];rfl
 ·exact hb _
 ·have e1:a=l.length:=by omega
  have e2:¬ 0<l.length:=by omega
  simp only[zHY,zGM,zA1,e1,e2,if_true,if_false];rfl
 ·have e1:a=l.length:=by omega
  have e2:¬ 0<l.length:=by omega
  simp only[zAN,zGM,zA1,e1,e2,if_true,if_false];rfl
 ·exact hb _
 ·have e1:¬ a=l.length:=by omega
  have e2:0<l.length:=by omega
  simp only[zHY,zGM,zA1,e1,e2,if_true,if_false];rfl
 ·have e1:¬ a=l.length:=by omega
  have e2:0<l.length:=by omega
  simp only[zAN,zGM,zA1,e1,e2,if_true,if_false]
theorem f129(l:LI)(a:Nat)(t:Int)(n:Int)(h:zD8 l a)(hn : -9000000000000000000<=n/\n<=9000000000000000000):zBM Tryz.prog zCG 129 [zQA,I n] [zCi l a t] (I (zAy l a t n)) [zCi l (zAN l a) (zA1 l a t)]:=by
 refine zAe Tryz.f129 ?_;have e:(if n+1>1 then n+1 else 1)=max 1 (n+1):=by split<;>omega
 refine zAj 1<|zAn 1<|S_a [(4,.ret (I (zHY l a t)) ([zCi l (zAN l a) (zA1 l a t)]))] (ap (f175 l a t (by omega)) an)<|zAp 1<|S_a [(1,.v (I (n+1)))] (ap ((zCj rfl (by omega)):I (IntKind.i64.wrap (n+1))=I (n+1)) an)<|zAp 1<|S_a [(0,.v (I ((zHY l a t).tmod (if n+1>1 then n+1 else 1))))] (ap (zYR (by omega) rfl:zHT Tryz.prog BinOp.rem 3 (I (zHY l a t)) (I (if n+1>1 then n+1 else 1))=some (I ((zHY l a t).tmod (if n+1>1 then n+1 else 1)))) an)<|S_g 1<|zAm<|E_a [] an (I ((zHY l a t).tmod (if n+1>1 then n+1 else 1))) ([(agg [sl (map u8 l),I (↑(zAN l a):Int),int IntKind.u32 (zA1 l a t)]).box]) ?_ rfl
 rw[e];rfl
theorem f127(l:LI)(a:Nat)(t:Int)(lo hi:Int)(h:zD8 l a)(hl:0<=lo/\lo<=1000000)(hn:0<=hi/\hi<=1000000):zBM Tryz.prog zCG 127 [zQA,I lo,I hi] [zCi l a t] (I (lo+zAy l a t (hi-lo))) [zCi l (zAN l a) (zA1 l a t)]:=by
 refine zAe Tryz.f127 ?_;have:=zCR l a t (hi-lo);refine zAj 1<|zAn 4<|S_a [(1,.v (I (hi-lo)))] (ap ((zCj rfl (by omega)):I (IntKind.i64.wrap (hi-lo))=I (hi-lo)) an)<|S_a [(6,.ret (I (zAy l a t (hi-lo))) ([zCi l (zAN l a) (zA1 l a t)]))] (ap (f129 l a t (hi-lo) (by omega) (by omega)) an)<|S_a [(1,.v (I (lo+zAy l a t (hi-lo))))] (ap ((zCj rfl (by omega)):I (IntKind.i64.wrap (lo+zAy l a t (hi-lo)))=I (lo+zAy l a t (hi-lo))) an)<|S_g 1<|zAm E_0
theorem f128(l:LI)(a:Nat)(t:Int)(n:Int)(h:zD8 l a)(hn:0<=n/\n<=1000000):zBM Tryz.prog zCG 128 [zQA,I n] [zCi l a t] (.bool (decide (zAy l a t (n-1)=0))) [zCi l (zAN l a) (zA1 l a t)]:=by
 refine zAe Tryz.f128 ?_;refine zAj 1<|zAn 2<|S_a [(1,.v (I (n-1)))] (ap ((zCj rfl (by omega)):I (IntKind.i64.wrap (n-1))=I (n-1)) an)<|S_a [(6,.ret (I (zAy l a t (n-1))) ([zCi l (zAN l a) (zA1 l a t)]))] (ap (f129 l a t (n-1) (by omega) (by omega)) an)<|S_g 2<|zAm E_0
end
end Go.Eng
namespace Go.Eng
open Go Go.Proofs
structure LkOk (q:LP) (h:Int):Prop where
 rng:∀ x∈q,1<=x.1/\x.1<h/\0<=x.2/\x.2<x.1
 nd:(q.map pr2).Nodup
 len:(q.length:Int)<h
theorem zVR{x:Int×Int}(h:x.2<x.1):pr2 x=(x.2,x.1):=by
 simp only[pr2];rw[if_pos h,if_neg (by omega)]
theorem LkOk.snoc{q:LP}{h s:Int}(hq:LkOk q h)(hh:1<=h)(hs:0<=s/\s<h):LkOk (q++[(h,s)]) (h+1):=by
 refine⟨fun x hx=>?_,?_,by have:=hq.len;simp;omega⟩
 ·rcases bg.1 hx with hx|hx
  ·have:=hq.rng x hx;omega
  ·rw[bl] at hx;subst hx;simp only;omega
 ·rw[cB,bI];refine⟨hq.nd,by simp,fun a ha b hb=>?_⟩;obtain⟨x,hx,rfl⟩:=bT.1 ha;simp only[bM,d4,bl] at hb;subst hb;have:=hq.rng x hx;rw[zVR (by omega),zVR (x:=(h,s)) (by simp only;omega)];intro e;have:=congrArg Prod.snd e;simp only at this;omega
theorem LkOk.skip{q:LP}{h:Int}(hq:LkOk q h):LkOk q (h+1):=⟨fun x hx=>by have:=hq.rng x hx;omega,hq.nd,by have:=hq.len;omega⟩
structure LkEnd (q:LP) (H:Int):Prop where
 rng:∀ x∈q,(0<=x.1/\x.1<H)/\(0<=x.2/\x.2<H)/\x.1≠x.2
 nd:(q.map pr2).Nodup
 len:(q.length:Int)<=H
theorem LkOk.fin{q:LP}{H:Int}(hq:LkOk q H):LkEnd q H:=⟨fun x hx=>by have:=hq.rng x hx;omega,hq.nd,by have:=hq.len;omega⟩
theorem LkOk.far{n:Nw}(hq:LkOk n.l n.h)(hh:1<n.h)(hn:zDe n 0 (n.h-1)=false):LkEnd (n.l++[(0,n.h-1)]) n.h:=by
 refine⟨fun x hx=>?_,?_,by have:=hq.len;simp;omega⟩
 ·rcases bg.1 hx with hx|hx
  ·have:=hq.rng x hx;omega
  ·rw[bl] at hx;subst hx;simp only;omega
 ·rw[cB,bI];refine⟨hq.nd,by simp,fun a ha b hb=>?_⟩;simp only[bM,d4,bl] at hb;subst hb;intro e;subst e;simp only[zDe,decide_eq_false_iff_not] at hn;exact hn ha
structure NtOk (F:LI) (N:List (Int×Bool)) (i:Nat):Prop where
 len:N.length=i
 fl:F.length<=i
 fr:∀ f∈F,0<=f/\f<i
 fnd:F.Nodup
 na:∀ j,j<i->-1<=(N.getD j d0).1/\(N.getD j d0).1<j
 nd:∀ j k,k<j->j<i->(N.getD j d0).1≠-1->(N.getD k d0).1≠(N.getD j d0).1
 un:∀ f∈F,∀ j,j<i->(N.getD j d0).1≠f
theorem zTo{N:List (Int×Bool)}{x:Int×Bool}{i j:Nat}(hl:N.length=i)(hj:j<i+1):(N++[x]).getD j d0=if j=i then x else N.getD j d0:=by
 split
 ·rename_i h;subst h;subst hl;simp[bK]
 ·rw[bK,cn (by omega),<- bK]
theorem NtOk.step{F G:LI}{N:List (Int×Bool)}{i:Nat}{y:Int}{b:Bool}(h:NtOk F N i)(hG:∀ f∈G,f∈F)(hGn:G.Nodup)(hGl:G.length<=i)(hy:y = -1\/y∈F/\y∉G):NtOk (G++[(i:Int)]) (N++[(y,b)]) (i+1):=by
 have hyr : -1<=y/\y<i:=by
  rcases hy with rfl|⟨h1,_⟩
  ·omega
  ·have:=h.fr y h1;omega
 have hg:=fun j (hj:j<i+1)=>zTo (x:=(y,b)) h.len hj;refine⟨by simp[h.len],by simp;omega,fun f hf=>?_,?_,fun j hj=>?_,fun j k hkj hj hI=>?_,fun f hf j hj=>?_⟩
 ·rcases bg.1 hf with hf|hf
  ·have:=h.fr f (hG f hf);omega
  ·rw[bl] at hf;omega
 ·rw[bI];refine⟨hGn,by simp,fun a ha c hc=>?_⟩;rw[bl] at hc;subst hc;have:=h.fr a (hG a ha);omega
 ·rw[hg j hj];split
  ·simp only;omega
  ·exact h.na j (by omega)
 ·rw[hg j hj] at hI ⊢;rw[hg k (by omega),if_neg (by omega)];split
  ·rename_i e;rw[if_pos e] at hI;simp only at hI ⊢;rcases hy with e2|⟨h1,_⟩
   ·exact absurd e2 hI
   ·exact h.un y h1 k (by omega)
  ·rename_i e;rw[if_neg e] at hI;exact h.nd j k hkj (by omega) hI
 ·rw[hg j hj];split
  ·simp only;rcases bg.1 hf with hf|hf
   ·rcases hy with e2|⟨_,h2⟩
    ·have:=h.fr f (hG f hf);omega
    ·exact fun e=>h2 (e▸hf)
   ·rw[bl] at hf;omega
  ·rcases bg.1 hf with hf|hf
   ·exact h.un f (hG f hf) j (by omega)
   ·rw[bl] at hf;have:=h.na j (by omega);omega
theorem NtOk.one{F:LI}{N:List (Int×Bool)}{i:Nat}{b:Bool}(h:NtOk F N i):NtOk (F++[(i:Int)]) (N++[(-1,b)]) (i+1):=h.step (fun _ h=>h) h.fnd h.fl (.inl rfl)
theorem NtOk.more{F:LI}{N:List (Int×Bool)}{i k:Nat}{b:Bool}(h:NtOk F N i)(hk:k<F.length):NtOk (F.eraseIdx k++[(i:Int)]) (N++[(F.getD k 0,b)]) (i+1):=by
 refine h.step (fun f hf=>List.mem_of_mem_eraseIdx hf) (h.fnd.eraseIdx k) (bF (List.length_eraseIdx_le _ _) h.fl) (.inr ⟨?_,?_⟩)
 ·rw[zAr hk];exact cC hk
 ·rw[zAr hk];intro hm;have hn:(F.take k++F[k]::F.drop (k+1)).Nodup:=by rw[<- bX hk,cm];exact h.fnd
  rw[bI] at hn;rw[List.eraseIdx_eq_take_drop_succ] at hm;rcases bg.1 hm with hm|hm
  ·exact hn.2.2 _ hm _ dT rfl
  ·exact(cv.1 hn.2.1).1 hm
structure RwOk (r:LI) (h:Nat):Prop where
 rng:∀ x∈r,0<=x/\x<h
 inc:zTj r=true
 len:r.length<=h
theorem zSG{p:LI}{c:Int}(h:zTj p=true)(hc:∀ y∈p,y<c):zTj (p++[c])=true:=by
 simp only[zTj,bj,bC,decide_eq_true_eq,bA,bW] at h ⊢;intro j hj;rw[bK,bK,cn (by omega)];by_cases e:j+1<p.length
 ·rw[cn e,<- bK,<- bK];exact h j (by omega)
 ·rw[cQ (by omega),show j+1-p.length=0 by omega];have y5:j<p.length:=by omega
  rw[bk y5];exact hc _ (cC y5)
theorem RwOk.snoc{r:LI}{h:Nat}(hr:RwOk r h):RwOk (r++[(h:Int)]) (h+1):=by
 refine⟨fun x hx=>?_,zSG hr.inc fun y hy=>(hr.rng y hy).2,by have:=hr.len;simp;omega⟩;rcases bg.1 hx with hx|hx
 ·have:=hr.rng x hx;omega
 ·rw[bl] at hx;omega
theorem RwOk.skip{r:LI}{h:Nat}(hr:RwOk r h):RwOk r (h+1):=⟨fun x hx=>by have:=hr.rng x hx;omega,hr.inc,by have:=hr.len;omega⟩
theorem zXC{H:Int}{q:LP}{F:LI}{N:List (Int×Bool)}{S:List LI}{m:Nat}(hH:1<=H/\H<=10)(hq:LkEnd q H)(hN:NtOk F N m)(hm:1<=m/\m<=8)(hS:∀ r∈S,RwOk r H.toNat)(v8:1<=S.length/\S.length<=6):zFK ⟨H,q,N,S⟩=0:=by
 have hml:=hN.len;have e:zFK ⟨H,q,N,S⟩=zO0 ⟨H,q,N,S⟩:=by
  refine zWN ?_ ?_ ?_ ?_
  ·simp only[inB,bB,bb,decide_eq_true_eq];omega
  ·have:=hq.len;simp only;omega
  ·simp only[inB,bB,bb,decide_eq_true_eq];omega
  ·simp only[inB,bB,bb,decide_eq_true_eq];omega
 rw[e];refine zYx ?_ ?_ ?_ ?_
 ·have h1:(q.all fun x=>zKG H x)=true:=bj.2 fun x hx=>by
   have:=hq.rng x hx;simp only[zKG,inB,bb,decide_eq_true_eq];omega
  have h2:(q.all fun x=>zKS x)=true:=bj.2 fun x hx=>by
   have:=hq.rng x hx;simp only[zKS,decide_eq_true_eq];exact this.2.2
  have h3:=hq.nd;simp only[zCW,h1,h2,h3,if_true]
 ·refine zYs (n:=⟨H,q,N,S⟩) (zZw (n:=⟨H,q,N,S⟩) fun i hi=>?_) fun i hi k hk=>?_
  ·have:=hN.na i (by simp only at hi;omega);simp only[inB,bb,decide_eq_true_eq];omega
  ·rintro⟨h1,h2⟩;exact hN.nd i k hk (by simp only at hi;omega) (by simp only at h1;omega) h2.symm
 ·exact bj.2 fun r hr=>bj.2 fun x hx=>by
   have:=(hS r hr).rng x hx;simp only[inB,bb,decide_eq_true_eq];omega
 ·exact bj.2 fun r hr=>by rw[zK9];exact(hS r hr).inc
end Go.Eng
set_option maxRecDepth 10000
set_option maxHeartbeats 4000000
namespace Go.Eng
open Go Go.Proofs
section
variable [Yo]
theorem f157(x:Int×Int)(a b:Int):FG 157 [prV x,.ref (I a),.ref (I b)] (.bool (zPB a b x)):=by
 refine zAe Tryz.f157 ?_;refine zAj 2<|zAn 4<|S_a [(0,.v (bool (decide (x.fst=a)&&decide (x.snd=b))))] (ap (zSD:zHT Tryz.prog BinOp.eql 87 (prV x) (agg [I a,I b])=some (bool (decide (x.fst=a)&&decide (x.snd=b)))) an)<|zAp 1<|zFD 10 (decide (x.fst=a)&&decide (x.snd=b)) (fun k0=>(S_g 7<|zAm<|E_a [] an (bool true) [] ?_ rfl)) (fun k0=>(zAp 4<|S_a [(0,.v (bool (decide (x.fst=b)&&decide (x.snd=a))))] (ap (zSD:zHT Tryz.prog BinOp.eql 87 (prV x) (agg [I b,I a])=some (bool (decide (x.fst=b)&&decide (x.snd=a)))) an)<|S_g 2<|zAm<|E_a [] an (bool (decide (x.fst=b)&&decide (x.snd=a))) [] ?_ rfl))
 ·have e:zPB a b x=true:=by
   simp only[bb,decide_eq_true_eq] at k0;simp only[zPB,decide_eq_true_eq];exact .inl k0
  rw[e]
 ·congr 1;rw[cZ];have:¬ (x.1=a/\x.2=b):=fun h=>by simp[h.1,h.2] at k0
  simp only[bb,decide_eq_true_eq,zPB];exact⟨.inr,fun h=>h.elim (fun h=>absurd h this) id⟩
theorem f202_5(a b:Int)(l:LP)(hl:l.length<4294967296):FG 202 [.sl (l.map prV),.func 157 [] [.ref (I a),.ref (I b)]] (I (zDI (fun x=>zPB a b x) l)):=by
 refine zAe Tryz.f202 ?_;refine zAj 1<|zAc<|zAn 1<|S_a [(0,.n l.length)] (ap (lnS prV l) an)<|S_g 1<|zAg 0 ?_
 refine zAu (fun i=>i<=l.length/\∀ j,j<i->(fun x=>zPB a b x) (l.getD j d0)=false) (fun i=>[(8,I (i:Nat))]) (fun i=>l.length-i) (0:Nat) (by simp) fun i ⟨hi,ha⟩=>?_;refine zAj 1<|zAc<|zC4 ((i:Int)<(l.length:Int)) (fun k0=>(zAh<|zAc<|zAg 1<|zAj 2<|zAn 3<|S_a [(2,.v (prV (l.getD i d0)))] (ap (zBN d0 (by omega):(map prV l)[i]? = some (prV (l.getD i d0))) an)<|zAp 1<|S_a [(8,.ret (bool (zPB a b (l.getD i d0))) [])] (ap (f157 (l.getD i d0) a b) an)<|zA6<|zEE (zPB a b (l.getD i d0)) (fun k1=>(zAj 2<|zAm<|E_a [] an (I (i:Int)) [] ?_ rfl)) (fun k1=>(zAh<|zAb<|S_i i<|S_g 1 ?_)))) (fun k0=>(zAG 0<|zAj 1<|zAm<|E_a [] an (I (-1)) [] ?_ rfl))
 ·rw[zBK (i:=i) (by omega) (fun j hj=>by rw[<- zAr (d:=d0)];exact ha j hj) (by rw[<- zAr (d:=d0)];first|assumption|exact decide_eq_true ‹_›|(simp only[bD,decide_eq_false_iff_not];assumption))]
 ·refine⟨i+1,⟨by omega,fun j hj=>?_⟩,by omega,by kernel_rfl,by kernel_rfl⟩;rcases bE.1 hj with h|rfl
  ·exact ha j h
  ·first|assumption|exact decide_eq_false ‹_›|(simp only[bB,decide_eq_true_eq];first|assumption|(apply cJ;assumption))
 ·rw[zBV fun j hj=>by rw[<- zAr (d:=d0)];exact ha j (by omega)]
theorem f156_5(a b:Int)(l:LP)(hl:l.length<4294967296):FG 156 [.sl (l.map prV),.func 157 [] [.ref (I a),.ref (I b)]] (.bool (l.any (fun x=>zPB a b x))):=by
 refine zAe Tryz.f156 ?_;refine zAj 1<|zAn 2<|S_a [(7,.ret (I (zDI (fun x=>zPB a b x) l)) [])] (ap (f202_5 a b l (by omega)) an)<|S_g 2<|zAm<|E_a [] an (bool (decide (zDI (fun x=>zPB a b x) l>=0))) [] ?_ rfl
 rw[zDA]
theorem f77(n:Nw)(a b:Int)(hl:n.l.length<1000000):FG 77 [nwV n,I a,I b] (.bool (zDe n a b)):=by
 rw[<- zXw];refine zAe Tryz.f77 ?_;refine zAj 4<|zAn 3<|S_a [(19,.ret (bool (n.l.any fun x=>zPB a b x)) [])] (ap (f156_5 a b n.l (by omega)) an)<|S_g 1<|zAm E_0
theorem f130_10(p0:Int):zBM Tryz.prog zCG 130 [.bor 50000000 [] 1 0 1,I 0,I 1] [.own 1 [I p0]] (.bor 50000000 [] 1 0 0) [.own 1 [I 0]]:=by
 refine zAe Tryz.f130 ?_;refine zAj 1<|zAj 6<|zAc<|zAj 3<|zAB<|zAh<|zAj 3<|zAn 2<|zAp 1<|zAp 3<|zAp 1<|S_g 1<|zAn 4<|zAp 1<|S_g 1<|zAn 1<|S_g 1<|zAm E_0
theorem f130_20(p0 p1:Int):zBM Tryz.prog zCG 130 [.bor 50000000 [] 1 0 2,I 0,I 1] [.own 1 [I p0,I p1]] (.bor 50000000 [] 1 0 1) [.own 1 [I p1,I 0]]:=by
 refine zAe Tryz.f130 ?_;refine zAj 1<|zAj 6<|zAc<|zAj 3<|zAB<|zAh<|zAj 3<|zAn 2<|zAp 1<|zAp 2<|zAp 1<|zAp 1<|S_g 1<|zAn 4<|zAp 1<|S_g 1<|zAn 1<|S_g 1<|zAm E_0
theorem f130_21(p0 p1:Int):zBM Tryz.prog zCG 130 [.bor 50000000 [] 1 0 2,I 1,I 2] [.own 1 [I p0,I p1]] (.bor 50000000 [] 1 0 1) [.own 1 [I p0,I 0]]:=by
 refine zAe Tryz.f130 ?_;refine zAj 1<|zAj 6<|zAc<|zAj 3<|zAB<|zAh<|zAj 3<|zAn 2<|zAp 1<|zAp 3<|zAp 1<|S_g 1<|zAn 4<|zAp 1<|S_g 1<|zAn 1<|S_g 1<|zAm E_0
theorem f130_30(p0 p1 p2:Int):zBM Tryz.prog zCG 130 [.bor 50000000 [] 1 0 3,I 0,I 1] [.own 1 [I p0,I p1,I p2]] (.bor 50000000 [] 1 0 2) [.own 1 [I p1,I p2,I 0]]:=by
 refine zAe Tryz.f130 ?_;refine zAj 1<|zAj 6<|zAc<|zAj 3<|zAB<|zAh<|zAj 3<|zAn 2<|zAp 1<|zAp 2<|zAp 1<|zAp 1<|S_g 1<|zAn 4<|zAp 1<|S_g 1<|zAn 1<|S_g 1<|zAm E_0
theorem f130_31(p0 p1 p2:Int):zBM Tryz.prog zCG 130 [.bor 50000000 [] 1 0 3,I 1,I 2] [.own 1 [I p0,I p1,I p2]] (.bor 50000000 [] 1 0 2) [.own 1 [I p0,I p2,I 0]]:=by
 refine zAe Tryz.f130 ?_;refine zAj 1<|zAj 6<|zAc<|zAj 3<|zAB<|zAh<|zAj 3<|zAn 2<|zAp 1<|zAp 2<|zAp 1<|zAp 1<|S_g 1<|zAn 4<|zAp 1<|S_g 1<|zAn 1<|S_g 1<|zAm E_0
theorem f130_32(p0 p1 p2:Int):zBM Tryz.prog zCG 130 [.bor 50000000 [] 1 0 3,I 2,I 3] [.own 1 [I p0,I p1,I p2]] (.bor 50000000 [] 1 0 2) [.own 1 [I p0,I p1,I 0]]:=by
 refine zAe Tryz.f130 ?_;refine zAj 1<|zAj 6<|zAc<|zAj 3<|zAB<|zAh<|zAj 3<|zAn 2<|zAp 1<|zAp 3<|zAp 1<|S_g 1<|zAn 4<|zAp 1<|S_g 1<|zAn 1<|S_g 1<|zAm E_0
theorem f130_40(p0 p1 p2 p3:Int):zBM Tryz.prog zCG 130 [.bor 50000000 [] 1 0 4,I 0,I 1] [.own 1 [I p0,I p1,I p2,I p3]] (.bor 50000000 [] 1 0 3) [.own 1 [I p1,I p2,I p3,I 0]]:=by
 refine zAe Tryz.f130 ?_;refine zAj 1<|zAj 6<|zAc<|zAj 3<|zAB<|zAh<|zAj 3<|zAn 2<|zAp 1<|zAp 2<|zAp 1<|zAp 1<|S_g 1<|zAn 4<|zAp 1<|S_g 1<|zAn 1<|S_g 1<|zAm E_0
theorem f130_41(p0 p1 p2 p3:Int):zBM Tryz.prog zCG 130 [.bor 50000000 [] 1 0 4,I 1,I 2] [.own 1 [I p0,I p1,I p2,I p3]] (.bor 50000000 [] 1 0 3) [.own 1 [I p0,I p2,I p3,I 0]]:=by
 refine zAe Tryz.f130 ?_;refine zAj 1<|zAj 6<|zAc<|zAj 3<|zAB<|zAh<|zAj 3<|zAn 2<|zAp 1<|zAp 2<|zAp 1<|zAp 1<|S_g 1<|zAn 4<|zAp 1<|S_g 1<|zAn 1<|S_g 1<|zAm E_0
theorem f130_42(p0 p1 p2 p3:Int):zBM Tryz.prog zCG 130 [.bor 50000000 [] 1 0 4,I 2,I 3] [.own 1 [I p0,I p1,I p2,I p3]] (.bor 50000000 [] 1 0 3) [.own 1 [I p0,I p1,I p3,I 0]]:=by
 refine zAe Tryz.f130 ?_;refine zAj 1<|zAj 6<|zAc<|zAj 3<|zAB<|zAh<|zAj 3<|zAn 2<|zAp 1<|zAp 2<|zAp 1<|zAp 1<|S_g 1<|zAn 4<|zAp 1<|S_g 1<|zAn 1<|S_g 1<|zAm E_0
theorem f130_43(p0 p1 p2 p3:Int):zBM Tryz.prog zCG 130 [.bor 50000000 [] 1 0 4,I 3,I 4] [.own 1 [I p0,I p1,I p2,I p3]] (.bor 50000000 [] 1 0 3) [.own 1 [I p0,I p1,I p2,I 0]]:=by
 refine zAe Tryz.f130 ?_;refine zAj 1<|zAj 6<|zAc<|zAj 3<|zAB<|zAh<|zAj 3<|zAn 2<|zAp 1<|zAp 3<|zAp 1<|S_g 1<|zAn 4<|zAp 1<|S_g 1<|zAn 1<|S_g 1<|zAm E_0
theorem f130_50(p0 p1 p2 p3 p4:Int):zBM Tryz.prog zCG 130 [.bor 50000000 [] 1 0 5,I 0,I 1] [.own 1 [I p0,I p1,I p2,I p3,I p4]] (.bor 50000000 [] 1 0 4) [.own 1 [I p1,I p2,I p3,I p4,I 0]]:=by
 refine zAe Tryz.f130 ?_;refine zAj 1<|zAj 6<|zAc<|zAj 3<|zAB<|zAh<|zAj 3<|zAn 2<|zAp 1<|zAp 2<|zAp 1<|zAp 1<|S_g 1<|zAn 4<|zAp 1<|S_g 1<|zAn 1<|S_g 1<|zAm E_0
theorem f130_51(p0 p1 p2 p3 p4:Int):zBM Tryz.prog zCG 130 [.bor 50000000 [] 1 0 5,I 1,I 2] [.own 1 [I p0,I p1,I p2,I p3,I p4]] (.bor 50000000 [] 1 0 4) [.own 1 [I p0,I p2,I p3,I p4,I 0]]:=by
 refine zAe Tryz.f130 ?_;refine zAj 1<|zAj 6<|zAc<|zAj 3<|zAB<|zAh<|zAj 3<|zAn 2<|zAp 1<|zAp 2<|zAp 1<|zAp 1<|S_g 1<|zAn 4<|zAp 1<|S_g 1<|zAn 1<|S_g 1<|zAm E_0
theorem f130_52(p0 p1 p2 p3 p4:Int):zBM Tryz.prog zCG 130 [.bor 50000000 [] 1 0 5,I 2,I 3] [.own 1 [I p0,I p1,I p2,I p3,I p4]] (.bor 50000000 [] 1 0 4) [.own 1 [I p0,I p1,I p3,I p4,I 0]]:=by
 refine zAe Tryz.f130 ?_;refine zAj 1<|zAj 6<|zAc<|zAj 3<|zAB<|zAh<|zAj 3<|zAn 2<|zAp 1<|zAp 2<|zAp 1<|zAp 1<|S_g 1<|zAn 4<|zAp 1<|S_g 1<|zAn 1<|S_g 1<|zAm E_0
theorem f130_53(p0 p1 p2 p3 p4:Int):zBM Tryz.prog zCG 130 [.bor 50000000 [] 1 0 5,I 3,I 4] [.own 1 [I p0,I p1,I p2,I p3,I p4]] (.bor 50000000 [] 1 0 4) [.own 1 [I p0,I p1,I p2,I p4,I 0]]:=by
 refine zAe Tryz.f130 ?_;refine zAj 1<|zAj 6<|zAc<|zAj 3<|zAB<|zAh<|zAj 3<|zAn 2<|zAp 1<|zAp 2<|zAp 1<|zAp 1<|S_g 1<|zAn 4<|zAp 1<|S_g 1<|zAn 1<|S_g 1<|zAm E_0
theorem f130_54(p0 p1 p2 p3 p4:Int):zBM Tryz.prog zCG 130 [.bor 50000000 [] 1 0 5,I 4,I 5] [.own 1 [I p0,I p1,I p2,I p3,I p4]] (.bor 50000000 [] 1 0 4) [.own 1 [I p0,I p1,I p2,I p3,I 0]]:=by
 refine zAe Tryz.f130 ?_;refine zAj 1<|zAj 6<|zAc<|zAj 3<|zAB<|zAh<|zAj 3<|zAn 2<|zAp 1<|zAp 3<|zAp 1<|S_g 1<|zAn 4<|zAp 1<|S_g 1<|zAn 1<|S_g 1<|zAm E_0
theorem f130g(l:LI)(i:Nat)(h:i<l.length)(hl:l.length<=5):zBM Tryz.prog zCG 130 [.bor 50000000 [] 1 0 l.length,I (i:Nat),I ((i:Nat)+1:Int)] [.own 1 (l.map I)] (.bor 50000000 [] 1 0 (l.length-1)) [.own 1 ((l.eraseIdx i++[0]).map I)]:=by
 rcases l with _|⟨p0,_|⟨p1,_|⟨p2,_|⟨p3,_|⟨p4,_|⟨p5,l⟩⟩⟩⟩⟩⟩
 ·exact absurd h (b8 _)
 ·obtain rfl:i=0:=by simp at h;omega
  ·exact f130_10 p0
 ·obtain rfl|rfl:i=0\/i=1:=by simp at h;omega
  ·exact f130_20 p0 p1
  ·exact f130_21 p0 p1
 ·obtain rfl|rfl|rfl:i=0\/i=1\/i=2:=by simp at h;omega
  ·exact f130_30 p0 p1 p2
  ·exact f130_31 p0 p1 p2
  ·exact f130_32 p0 p1 p2
 ·obtain rfl|rfl|rfl|rfl:i=0\/i=1\/i=2\/i=3:=by simp at h;omega
  ·exact f130_40 p0 p1 p2 p3
  ·exact f130_41 p0 p1 p2 p3
  ·exact f130_42 p0 p1 p2 p3
  ·exact f130_43 p0 p1 p2 p3
 ·obtain rfl|rfl|rfl|rfl|rfl:i=0\/i=1\/i=2\/i=3\/i=4:=by simp at h;omega
  ·exact f130_50 p0 p1 p2 p3 p4
  ·exact f130_51 p0 p1 p2 p3 p4
  ·exact f130_52 p0 p1 p2 p3 p4
  ·exact f130_53 p0 p1 p2 p3 p4
  ·exact f130_54 p0 p1 p2 p3 p4
 ·simp at hl
end
end Go.Eng
set_option maxRecDepth 10000
set_option maxHeartbeats 4000000
namespace Go.Eng
open Go Go.Proofs
section
variable [Yo]
theorem f48_ex(l:LI)(a:Nat)(t hs ns ss:Int)(h:zD8 l a)(hh:2<=hs/\hs<=8)(hn:2<=ns/\ns<=6)(yC:1<=ss/\ss<=4):∃ v h',zBM Tryz.prog zCG 48 [zQA,I hs,I ns,I ss] [zCi l a t] v h'/\∃ (n:Nw) (a':Nat) (t':Int),v=nwO n/\h'=[zCi l a' t']/\zFK n=0/\n.h<=hs/\(n.n.length:Int)<=ns/\(n.s.length:Int)<=ss/\zD8 l a':=by
 refine zNu Tryz.f48 _ ?_;have g1:=zCQ h;have s1:=zCR l a t (hs-2);refine zAj 1<|zAn 2<|S_a [(8,.ret (I (2+zAy l a t (hs-2))) ([zCi l (zAN l a) (zA1 l a t)]))] (ap (f127 l a t (2) hs (by omega) (by omega) (by omega)) an)<|S_g 3<|zAc<|zAj 1<|zAg 0 ?_
 have hH1:2<=2+zAy l a t (hs-2)/\2+zAy l a t (hs-2)<=hs:=by omega
 generalize 2+zAy l a t (hs-2)=H at *;clear s1;generalize zA1 l a t=T0 at *;generalize zAN l a=A0 at *;refine zAu (fun(h,q,a,_)=>1<=h/\(h:Int)<=H/\LkOk q h/\zD8 l a) (fun((h:Nat),(q:LP),(a:Nat),(t:Int))=>[(9,.box (.agg [I H,.own 2 (q.map prV),.own 2 [],.own 1 []])),(10,I (h:Nat)),(50000000,zCi l a t)]) (fun(h,_,_,_)=>H.toNat-h) ((1:Nat),([]:LP),A0,T0) ⟨bi _,by omega,⟨fun x hx=>absurd hx du,b4,by simp only[cN];omega⟩,g1⟩ fun(h,q,a,t) ⟨gv,hhH,hq,ha⟩=>?_;have wB:=hq.len;by_cases wv:(h:Int)<H
 ·have g2:=zCQ ha;have g3:=zCQ g2;have s2:=zCR l (zAN l a) (zA1 l a t) ((h-1:Nat):Int);have ka:=hq.skip;have jk:LkOk (q++[((h:Int),zAy l (zAN l a) (zA1 l a t) ((h-1:Nat):Int))]) ((h:Int)+1):=hq.snoc (by omega) (by omega);clear hq;refine zAc<|zAj 4<|zAL ((h:Int)<H) (by omega)<|zAh<|zAc<|zAg 1<|zAn 1<|S_a [(6,.ret (bool (decide (zAy l a t (5-1)=0))) ([zCi l (zAN l a) (zA1 l a t)]))] (ap (f128 l a t (5) (by omega) (by omega)) an)<|S_g 1<|zDZ (zAy l a t (5-1)=0) (fun k0=>(zAb<|zAp 1<|S_a [(1,.v (bor 9 [(0,1)] 2 0 q.length))] (ap ((by simp):bor 9 [(0,1)] 2 0 (map prV q).length=bor 9 [(0,1)] 2 0 q.length) an)<|zAp 3<|S_a [(1,.v (I (↑(h-1):Int)))] (ap ((zCj (by omega) (by omega)):I (IntKind.i64.wrap ((h:Int)-1))=I (↑(h-1):Int)) an)<|S_a [(6,.ret (I (zAy l (zAN l a) (zA1 l a t) (↑(h-1):Int))) ([zCi l (zAN l (zAN l a)) (zA1 l (zAN l a) (zA1 l a t))]))] (ap (f129 l (zAN l a) (zA1 l a t) ((↑(h-1):Int)) (by omega) (by omega)) an)<|zAp 2<|S_a [(4,.ob),(0,.ob),(0,.yes),(2,.v (own 2 (map prV (q++[((h:Int),zAy l (zAN l a) (zA1 l a t) (↑(h-1):Int))]))))] (ap ((by exact zAP (by simp only[be,zzLn,zAJ]<;>omega)):(0+q.length).ble (map prV q).length=true)<|ap ((by exact zAP (by simp only[be,zzLn,zAJ]<;>omega)):((map prV q).length + [agg [I (h:Int),I (zAy l (zAN l a) (zA1 l a t) (↑(h-1):Int))]].length).ble zAJ=true)<|ap ((by exact zBj (by simp<;>omega)):(0+q.length).beq (map prV q).length=true)<|ap ((zAQ (zBF (by kernel_rfl))):own 2 (map prV q++[agg [I (h:Int),I (zAy l (zAN l a) (zA1 l a t) (↑(h-1):Int))]])=own 2 (map prV (q++[((h:Int),zAy l (zAN l a) (zA1 l a t) (↑(h-1):Int))]))) an)<|S_g 2<|zAb<|zAp 1<|S_i h<|S_g 1 ?_)) (fun k0=>(zAh<|zAb<|zAp 1<|S_i h<|S_g 1 ?_))
  ·exact rnd (h+1,q++[((h:Int),zAy l (zAN l a) (zA1 l a t) ((h-1:Nat):Int))],zAN l (zAN l a),zA1 l (zAN l a) (zA1 l a t)) ⟨by omega,by omega,jk,g3⟩ (by simp only;omega)
  ·exact rnd (h+1,q,zAN l a,zA1 l a t) ⟨by omega,by omega,ka,g2⟩ (by simp only;omega)
 have qV:(h:Int)=H:=by omega
 rw[qV] at hq;have g2:=zCQ ha;refine zAc<|zAj 4 ?_
 refine zAS ((h:Int)<H) (by omega)<|zAG 0 ?_
 refine zO7 (fun(q,a,_,_)=>LkEnd q H/\zD8 l a) (fun((q:LP),(a:Nat),(t:Int),(x:Bool))=>[(9,.box (.agg [I H,.own 2 (q.map prV),.own 2 [],.own 1 []])),(55,.bool x),(50000000,zCi l a t)]) [] ?_ fun(q2,a2,t2,x2) ⟨jk,jn⟩=>?_
 ·have w7:FG 77 [.agg [I H,.sl (q.map prV),.sl [],.sl []],I 0,I (H-1)] (.bool (zDe ⟨H,q,[],[]⟩ 0 (H-1))):=f77 ⟨H,q,[],[]⟩ 0 (H-1) (by simp only;omega);have yM:=hq.fin;have hfar:=fun hb=>LkOk.far (n:=⟨H,q,[],[]⟩) hq (by simp only;omega) hb;simp only at hfar;clear hq;refine zAn 4<|zJ5 44 (H>3) (fun k0=>(zAp 1<|S_a [(6,.ret (bool (decide (zAy l a t (2-1)=0))) ([zCi l (zAN l a) (zA1 l a t)]))] (ap (f128 l a t (2) (by omega) (by omega)) an)<|zAp 2<|zJ5 48 (zAy l a t (2-1)=0) (fun k1=>(zAp 3<|S_a [(1,.v (I (H-1)))] (ap ((zCj rfl (by omega)):I (IntKind.i64.wrap (H-1))=I (H-1)) an)<|S_a [(6,.ob),(0,.v (prs q)),(12,.ret (bool (zDe {h:=H,l:=q,n:=[],s:=[]} 0 (H-1))) [])] (ap (blz (map prV q))<|ap (frT prV q)<|ap w7 an)<|S_g 2<|zEE (!zDe {h:=H,l:=q,n:=[],s:=[]} 0 (H-1)) (fun k2=>(zAb<|zAp 1<|S_a [(1,.v (bor 9 [(0,1)] 2 0 q.length))] (ap ((by simp):bor 9 [(0,1)] 2 0 (map prV q).length=bor 9 [(0,1)] 2 0 q.length) an)<|zAp 2<|S_a [(1,.v (I (H-1)))] (ap ((zCj rfl (by omega)):I (IntKind.i64.wrap (H-1))=I (H-1)) an)<|zAp 2<|S_a [(4,.ob),(0,.ob),(0,.yes),(2,.v (own 2 (map prV (q++[(0,H-1)]))))] (ap ((by exact zAP (by simp only[be,zzLn,zAJ]<;>omega)):(0+q.length).ble (map prV q).length=true)<|ap ((by exact zAP (by simp only[be,zzLn,zAJ]<;>omega)):((map prV q).length + [agg [I 0,I (H-1)]].length).ble zAJ=true)<|ap ((by exact zBj (by simp<;>omega)):(0+q.length).beq (map prV q).length=true)<|ap ((zAQ (zBF (by kernel_rfl))):own 2 (map prV q++[agg [I 0,I (H-1)]])=own 2 (map prV (q++[(0,H-1)]))) an)<|S_g 2 ?_)) (fun k2=>(zAh ?_)))) (fun k1=>(S_g 7<|zAB<|zAh ?_)))) (fun k0=>(S_g 11<|zAB<|zAh ?_))
  ·exact⟨(q++[(0,H-1)],zAN l a,zA1 l a t,!zDe ⟨H,q,[],[]⟩ 0 (H-1)),⟨hfar (by simpa using k2),g2⟩,by kernel_rfl,by kernel_rfl⟩
  ·exact⟨(q,zAN l a,zA1 l a t,!zDe ⟨H,q,[],[]⟩ 0 (H-1)),⟨yM,g2⟩,by kernel_rfl,by kernel_rfl⟩
  ·exact⟨(q,zAN l a,zA1 l a t,false),⟨yM,g2⟩,by kernel_rfl,by kernel_rfl⟩
  ·exact⟨(q,a,t,false),⟨yM,ha⟩,by kernel_rfl,by kernel_rfl⟩
 have h1:=jk.len;have g3:=zCQ jn;have s1:=zCR l a2 t2 (ns-2);clear hq;refine zAj 1<|zAc<|zAn 2<|S_a [(8,.ret (I (2+zAy l a2 t2 (ns-2))) ([zCi l (zAN l a2) (zA1 l a2 t2)]))] (ap (f127 l a2 t2 (2) ns (by omega) (by omega) (by omega)) an)<|S_g 1<|zAg 2 ?_
 have hm1:2<=2+zAy l a2 t2 (ns-2)/\2+zAy l a2 t2 (ns-2)<=ns:=by omega
 generalize 2+zAy l a2 t2 (ns-2)=m at *;clear s1;generalize zA1 l a2 t2=T1 at *;generalize zAN l a2=A1 at *;refine zAu (fun(i,F,N,a,_)=>(i:Int)<=m/\NtOk F N i/\zD8 l a) (fun((i:Nat),(F:LI),(N:List (Int×Bool)),(a:Nat),(t:Int))=>[(9,.box (.agg [I H,.own 2 (q2.map prV),.own 2 (N.map ntV),.own 1 []])),(11,.own 1 (F.map I)),(68,I (i:Nat)),(50000000,zCi l a t)]) (fun(i,_,_,_,_)=>m.toNat-i) ((0:Nat),([]:LI),([]:List (Int×Bool)),A1,T1) ⟨by omega,⟨rfl,bi _,fun f hf=>absurd hf du,b4,fun j hj=>absurd hj (b8 j),fun j k hkj hj=>absurd hj (b8 j),fun f hf=>absurd hf du⟩,g3⟩ fun(i,F,N,a,t) ⟨him,hN,ha⟩=>?_;have hNl:=hN.len;have hFl:=hN.fl;by_cases yH:(i:Int)<m
 ·have g4:=zCQ ha;have g5:=zCQ g4;have g6:=zCQ g5;have s2:=zCR l (zAN l a) (zA1 l a t) ((F.length-1:Nat):Int);have yN:=fun b=>hN.one (b:=b);by_cases hF:0<F.length
  ·have hstk:=f129 l (zAN l a) (zA1 l a t) ((F.length-1:Nat):Int) g4 (by omega);generalize zAy l (zAN l a) (zA1 l a t) ((F.length-1:Nat):Int)=s at hstk s2;obtain⟨k,rfl⟩:∃ k:Nat,s=k:=⟨s.toNat,by omega⟩;have hdel:=f130g F k (by omega) (by omega);have hmore:=fun b=>hN.more (b:=b) (k:=k) (by omega);have htk:(F.eraseIdx k++[0]).take (F.length-1)=F.eraseIdx k:=by
    rw[cI (by rw[fy (by omega)];exact bi _),bz (by rw[fy (by omega)];exact bi _)]
   have yp:(F.eraseIdx k).length=F.length-1:=fy (by omega);have wJ:∀ b,NtOk ((F.eraseIdx k++[0]).take (F.length-1)++[(i:Int)]) (N++[(F.getD k 0,b)]) (i+1):=fun b=>by rw[htk];exact hmore b
   clear hN;refine zAj 1<|zAc<|zAL ((i:Int)<m) (by omega)<|zAh<|zAc<|zAg 3<|zAj 2<|zAj 1<|zAc<|zAn 1<|S_a [(0,.n F.length)] (ap (lnS I F) an)<|zAp 2<|zPE 74 ((F.length:Int)>0) (by omega) (zAp 1<|S_a [(6,.ret (bool (decide (zAy l a t (3-1)=0))) ([zCi l (zAN l a) (zA1 l a t)]))] (ap (f128 l a t (3) (by omega) (by omega)) an)<|S_g 2<|zDZ (zAy l a t (3-1)=0) (fun k1=>(zAn 2<|S_a [(0,.n F.length)] (ap (lnS I F) an)<|S_a [(1,.v (I (↑(F.length-1):Int)))] (ap ((zCj (by omega) (by omega)):I (IntKind.i64.wrap ((F.length:Int)-1))=I (↑(F.length-1):Int)) an)<|S_a [(6,.ret (I (k:Int)) ([zCi l (zAN l (zAN l a)) (zA1 l (zAN l a) (zA1 l a t))]))] (ap hstk an)<|S_g 1<|zAn 2<|S_a [(2,.ob),(1,.n k)] (ap ((by exact zAl (by simp only[be,zzLn]<;>omega)):decide (k<(map I F).length)=true)<|ap ((by simp):some (0+k)=some k) an)<|S_a [(0,.cs false ([I (F.getD k 0)]))] (ap (zB2 (q:=own 1 (map I F)) (xs:=map I F) (x:=I (F.getD k 0)) rfl (zBN (0) (by omega)):zAo 11 (own 1 (map I F)) [] k 0 1=some (false,[I (F.getD k 0)])) an)<|S_g 1<|zAb<|zAp 3<|S_i k<|S_a [(7,.vs ([bor 50000000 [] 1 0 F.length,I (k:Int),I (↑(k+1):Int)])),(0,.ret (bor 50000000 [] 1 0 (F.length-1)) ([own 1 (map I (F.eraseIdx k++[0]))]))] (ap ((by simp) : [bor 50000000 [] 1 0 (map I F).length,I (k:Int),I (↑(k+1):Int)]=[bor 50000000 [] 1 0 F.length,I (k:Int),I (↑(k+1):Int)])<|ap hdel an)<|S_a [(1,.ob),(0,.v (own 1 (map I (take (F.length-1) (F.eraseIdx k++[0])))))] (ap ((by exact zAP (by simp only[be,zzLn,zAJ]<;>omega)):(0+(F.length-1)).ble (map I (F.eraseIdx k++[0])).length=true)<|ap ((by simp):own 1 (take (F.length-1) (drop 0 (map I (F.eraseIdx k++[0]))))=own 1 (map I (take (F.length-1) (F.eraseIdx k++[0])))) an)<|zA6<|zAn 3<|S_a [(4,.ob),(0,.ob),(0,.yes),(2,.v (own 1 (map I (take (F.length-1) (F.eraseIdx k++[0])++[(i:Int)]))))] (ap (blz (map I (take (F.length-1) (F.eraseIdx k++[0]))))<|ap ((by exact zAP (by simp[zAJ]<;>omega)):((map I (take (F.length-1) (F.eraseIdx k++[0]))).length + [I (i:Int)].length).ble zAJ=true)<|ap ((by exact zBj (by simp<;>omega)):(0+(map I (take (F.length-1) (F.eraseIdx k++[0]))).length).beq (map I (take (F.length-1) (F.eraseIdx k++[0]))).length=true)<|ap ((zAQ (zBF (by kernel_rfl))):own 1 (map I (take (F.length-1) (F.eraseIdx k++[0]))++[I (i:Int)])=own 1 (map I (take (F.length-1) (F.eraseIdx k++[0])++[(i:Int)]))) an)<|S_g 1<|zAb<|zAp 1<|S_a [(1,.v (bor 9 [(0,2)] 2 0 N.length))] (ap ((by simp):bor 9 [(0,2)] 2 0 (map ntV N).length=bor 9 [(0,2)] 2 0 N.length) an)<|zAp 2<|S_a [(6,.ret (bool (decide (zAy l (zAN l (zAN l a)) (zA1 l (zAN l a) (zA1 l a t)) (3-1)=0))) ([zCi l (zAN l (zAN l (zAN l a))) (zA1 l (zAN l (zAN l a)) (zA1 l (zAN l a) (zA1 l a t)))]))] (ap (f128 l (zAN l (zAN l a)) (zA1 l (zAN l a) (zA1 l a t)) (3) (by omega) (by omega)) an)<|zAp 2<|S_a [(4,.ob),(0,.ob),(0,.yes),(2,.v (own 2 (map ntV (N++[(F.getD k 0,decide (zAy l (zAN l (zAN l a)) (zA1 l (zAN l a) (zA1 l a t)) (3-1)=0))]))))] (ap ((by exact zAP (by simp only[be,zzLn,zAJ]<;>omega)):(0+N.length).ble (map ntV N).length=true)<|ap ((by exact zAP (by simp only[be,zzLn,zAJ]<;>omega)):((map ntV N).length + [agg [I (F.getD k 0),bool (decide (zAy l (zAN l (zAN l a)) (zA1 l (zAN l a) (zA1 l a t)) (3-1)=0))]].length).ble zAJ=true)<|ap ((by exact zBj (by simp<;>omega)):(0+N.length).beq (map ntV N).length=true)<|ap ((zAQ (zBF (by kernel_rfl))):own 2 (map ntV N++[agg [I (F.getD k 0),bool (decide (zAy l (zAN l (zAN l a)) (zA1 l (zAN l a) (zA1 l a t)) (3-1)=0))]])=own 2 (map ntV (N++[(F.getD k 0,decide (zAy l (zAN l (zAN l a)) (zA1 l (zAN l a) (zA1 l a t)) (3-1)=0))]))) an)<|S_g 2<|zAb<|S_i i<|S_g 1 ?_)) (fun k1=>(zAh<|zAn 3<|S_a [(4,.ob),(0,.ob),(0,.yes),(2,.v (own 1 (map I (F++[(i:Int)]))))] (ap (blz (map I F))<|ap ((by exact zAP (by simp only[be,zzLn,zAJ]<;>omega)):((map I F).length + [I (i:Int)].length).ble zAJ=true)<|ap ((by exact zBj (by simp<;>omega)):(0+(map I F).length).beq (map I F).length=true)<|ap ((zAQ (zBF (by kernel_rfl))):own 1 (map I F++[I (i:Int)])=own 1 (map I (F++[(i:Int)]))) an)<|S_g 1<|zAb<|zAp 1<|S_a [(1,.v (bor 9 [(0,2)] 2 0 N.length))] (ap ((by simp):bor 9 [(0,2)] 2 0 (map ntV N).length=bor 9 [(0,2)] 2 0 N.length) an)<|zAp 2<|S_a [(6,.ret (bool (decide (zAy l (zAN l a) (zA1 l a t) (3-1)=0))) ([zCi l (zAN l (zAN l a)) (zA1 l (zAN l a) (zA1 l a t))]))] (ap (f128 l (zAN l a) (zA1 l a t) (3) (by omega) (by omega)) an)<|zAp 2<|S_a [(4,.ob),(0,.ob),(0,.yes),(2,.v (own 2 (map ntV (N++[(-1,decide (zAy l (zAN l a) (zA1 l a t) (3-1)=0))]))))] (ap ((by exact zAP (by simp only[be,zzLn,zAJ]<;>omega)):(0+N.length).ble (map ntV N).length=true)<|ap ((by exact zAP (by simp only[be,zzLn,zAJ]<;>omega)):((map ntV N).length + [agg [I (-1),bool (decide (zAy l (zAN l a) (zA1 l a t) (3-1)=0))]].length).ble zAJ=true)<|ap ((by exact zBj (by simp<;>omega)):(0+N.length).beq (map ntV N).length=true)<|ap ((zAQ (zBF (by kernel_rfl))):own 2 (map ntV N++[agg [I (-1),bool (decide (zAy l (zAN l a) (zA1 l a t) (3-1)=0))]])=own 2 (map ntV (N++[(-1,decide (zAy l (zAN l a) (zA1 l a t) (3-1)=0))]))) an)<|S_g 2<|zAb<|S_i i<|S_g 1 ?_)))
   ·exact rnd (i+1,(F.eraseIdx k++[0]).take (F.length-1)++[(i:Int)],N++[(F.getD k 0,decide (zAy l (zAN l (zAN l a)) (zA1 l (zAN l a) (zA1 l a t)) (3-1)=0))],zAN l (zAN l (zAN l a)),zA1 l (zAN l (zAN l a)) (zA1 l (zAN l a) (zA1 l a t))) ⟨by omega,wJ _,g6⟩ (by simp only;omega)
   ·exact rnd (i+1,F++[(i:Int)],N++[(-1,decide (zAy l (zAN l a) (zA1 l a t) (3-1)=0))],zAN l (zAN l a),zA1 l (zAN l a) (zA1 l a t)) ⟨by omega,yN _,g5⟩ (by simp only;omega)
  ·clear hN;refine zAj 1<|zAc<|zAL ((i:Int)<m) (by omega)<|zAh<|zAc<|zAg 3<|zAj 2<|zAj 1<|zAc<|zAn 1<|S_a [(0,.n F.length)] (ap (lnS I F) an)<|zAp 2<|zIG 74 ((F.length:Int)>0) (by omega) (S_g 4<|zAB<|zAh<|zAn 3<|S_a [(4,.ob),(0,.ob),(0,.yes),(2,.v (own 1 (map I (F++[(i:Int)]))))] (ap (blz (map I F))<|ap ((by exact zAP (by simp only[be,zzLn,zAJ]<;>omega)):((map I F).length + [I (i:Int)].length).ble zAJ=true)<|ap ((by exact zBj (by simp<;>omega)):(0+(map I F).length).beq (map I F).length=true)<|ap ((zAQ (zBF (by kernel_rfl))):own 1 (map I F++[I (i:Int)])=own 1 (map I (F++[(i:Int)]))) an)<|S_g 1<|zAb<|zAp 1<|S_a [(1,.v (bor 9 [(0,2)] 2 0 N.length))] (ap ((by simp):bor 9 [(0,2)] 2 0 (map ntV N).length=bor 9 [(0,2)] 2 0 N.length) an)<|zAp 2<|S_a [(6,.ret (bool (decide (zAy l a t (3-1)=0))) ([zCi l (zAN l a) (zA1 l a t)]))] (ap (f128 l a t (3) (by omega) (by omega)) an)<|zAp 2<|S_a [(4,.ob),(0,.ob),(0,.yes),(2,.v (own 2 (map ntV (N++[(-1,decide (zAy l a t (3-1)=0))]))))] (ap ((by exact zAP (by simp only[be,zzLn,zAJ]<;>omega)):(0+N.length).ble (map ntV N).length=true)<|ap ((by exact zAP (by simp only[be,zzLn,zAJ]<;>omega)):((map ntV N).length + [agg [I (-1),bool (decide (zAy l a t (3-1)=0))]].length).ble zAJ=true)<|ap ((by exact zBj (by simp<;>omega)):(0+N.length).beq (map ntV N).length=true)<|ap ((zAQ (zBF (by kernel_rfl))):own 2 (map ntV N++[agg [I (-1),bool (decide (zAy l a t (3-1)=0))]])=own 2 (map ntV (N++[(-1,decide (zAy l a t (3-1)=0))]))) an)<|S_g 2<|zAb<|S_i i<|S_g 1 ?_)
   exact rnd (i+1,F++[(i:Int)],N++[(-1,decide (zAy l a t (3-1)=0))],zAN l a,zA1 l a t) ⟨by omega,yN _,g4⟩ (by simp only;omega)
 have him2:(i:Int)=m:=by omega
 have g4:=zCQ ha;have s1:=zCR l a t (ss-1);refine zAj 1<|zAc<|zAS ((i:Int)<m) (by omega)<|zAG 2<|zAc<|zAn 2<|S_a [(8,.ret (I (1+zAy l a t (ss-1))) ([zCi l (zAN l a) (zA1 l a t)]))] (ap (f127 l a t (1) ss (by omega) (by omega) (by omega)) an)<|S_g 1<|zAg 4 ?_
 have hM1:1<=1+zAy l a t (ss-1)/\1+zAy l a t (ss-1)<=ss:=by omega
 generalize 1+zAy l a t (ss-1)=M at *;clear s1;generalize zA1 l a t=T2 at *;generalize zAN l a=A2 at *;refine zAu (fun(s,S,a,_)=>(s:Int)<=M/\S.length=s/\(∀ r∈S,RwOk r H.toNat)/\zD8 l a) (fun((s:Nat),(S:List LI),(a:Nat),(t:Int))=>[(9,.box (.agg [I H,.own 2 (q2.map prV),.own 2 (N.map ntV),.own 1 (S.map zA7)])),(110,I (s:Nat)),(50000000,zCi l a t)]) (fun(s,_,_,_)=>M.toNat-s) ((0:Nat),([]:List LI),A2,T2) ⟨by omega,rfl,fun r hr=>absurd hr du,g4⟩ fun(s,S,a3,t3) ⟨hsM,v8,hS,ha3⟩=>?_;by_cases yy:(s:Int)<M
 ·refine zAj 1<|zAc<|zAL ((s:Int)<M) (by omega)<|zAh<|zAc<|zAg 5<|zAj 1<|zAc<|zAj 3<|zAg 6 ?_
  refine zAu (fun(j,r,a,_)=>(j:Int)<=H/\RwOk r j/\zD8 l a) (fun((j:Nat),(r:LI),(a:Nat),(t:Int))=>[(15,.own 1 (r.map I)),(114,I (j:Nat)),(50000000,zCi l a t)]) (fun(j,_,_,_)=>H.toNat-j) ((0:Nat),([]:LI),a3,t3) ⟨by omega,⟨fun x hx=>absurd hx du,rfl,bi _⟩,ha3⟩ fun(j,r,a4,t4) ⟨hjH,hr,ha4⟩=>?_;have wA:=hr.len;by_cases y5:(j:Int)<H
  ·have g5:=zCQ ha4;have qJ:=hr.skip;have uF:=hr.snoc;clear hr;refine zAj 1<|zAc<|zAL ((j:Int)<H) (by omega)<|zAh<|zAc<|zAg 7<|zAj 2<|zAn 1<|S_a [(6,.ret (bool (decide (zAy l a4 t4 (3-1)=0))) ([zCi l (zAN l a4) (zA1 l a4 t4)]))] (ap (f128 l a4 t4 (3) (by omega) (by omega)) an)<|zA6<|zC4 (zAy l a4 t4 (3-1)=0) (fun k0=>(zAb<|zAp 3<|S_a [(4,.ob),(0,.ob),(0,.yes),(2,.v (own 1 (map I (r++[(j:Int)]))))] (ap (blz (map I r))<|ap ((by exact zAP (by simp only[be,zzLn,zAJ]<;>omega)):((map I r).length + [I (j:Int)].length).ble zAJ=true)<|ap ((by exact zBj (by simp<;>omega)):(0+(map I r).length).beq (map I r).length=true)<|ap ((zAQ (zBF (by kernel_rfl))):own 1 (map I r++[I (j:Int)])=own 1 (map I (r++[(j:Int)]))) an)<|S_g 1<|zAb<|S_i j<|S_g 1 ?_)) (fun k0=>(zAh<|zAb<|S_i j<|S_g 1 ?_))
   ·exact rnd (j+1,r++[(j:Int)],zAN l a4,zA1 l a4 t4) ⟨by omega,uF,g5⟩ (by simp only;omega)
   ·exact rnd (j+1,r,zAN l a4,zA1 l a4 t4) ⟨by omega,qJ,g5⟩ (by simp only;omega)
  ·have hje:j=H.toNat:=by omega
   rw[hje] at hr;have hS2:∀ x∈S++[r],RwOk x H.toNat:=fun x hx=>by
    rcases bg.1 hx with hx|hx
    ·exact hS x hx
    ·rw[bl] at hx;subst hx;exact hr
   refine zAj 1<|zAc<|zAS ((j:Int)<H) (by omega)<|zAG 6<|zAb<|zAp 1<|S_a [(1,.v (bor 9 [(0,3)] 1 0 S.length))] (ap ((by simp):bor 9 [(0,3)] 1 0 (map zA7 S).length=bor 9 [(0,3)] 1 0 S.length) an)<|zAp 1<|S_a [(2,.yes)] (ap ((by exact zBj (by simp<;>omega)):(beq 0 0&&(map I r).length.beq (map I r).length)=true) an)<|S_a [(4,.ob),(0,.ob),(0,.yes),(2,.v (own 1 (map zA7 (S++[r]))))] (ap ((by exact zAP (by simp only[be,zzLn,zAJ]<;>omega)):(0+S.length).ble (map zA7 S).length=true)<|ap ((by exact zAP (by simp only[be,zzLn,zAJ]<;>omega)):((map zA7 S).length + [own 1 (map I r)].length).ble zAJ=true)<|ap ((by exact zBj (by simp<;>omega)):(0+S.length).beq (map zA7 S).length=true)<|ap ((zAQ (zBF (by kernel_rfl))):own 1 (map zA7 S++[own 1 (map I r)])=own 1 (map zA7 (S++[r]))) an)<|S_g 2<|zAb<|S_i s<|S_g 1 ?_
   exact rnd (s+1,S++[r],a4,t4) ⟨by omega,by rw[bA,v8];rfl,hS2,ha4⟩ (by simp only;omega)
 ·have kT:=zXC (H:=H) (q:=q2) (F:=F) (N:=N) (S:=S) (m:=i) (by omega) jk hN (by omega) hS (by omega);refine zAj 1<|zAc<|zAS ((s:Int)<M) (by omega)<|zAG 4<|zAn 1<|S_a [(4,.yes),(2,.yes),(2,.yes)] (ap ((by exact zBj (by simp<;>omega)):(beq 0 0&&(map prV q2).length.beq (map prV q2).length)=true)<|ap ((by exact zBj (by simp<;>omega)):(beq 0 0&&(map ntV N).length.beq (map ntV N).length)=true)<|ap ((by exact zBj (by simp<;>omega)):(beq 0 0&&(map zA7 S).length.beq (map zA7 S).length)=true) an)<|zA6<|zAm<|E_q [(4,.yes),(1,.v (own 2 (map prV q2))),(1,.yes),(1,.v (own 2 (map ntV N))),(1,.yes),(1,.v (own 1 (map zA7 S)))] (ap (blz (map prV q2))<|ap ((zAQ zAW):own 2 (take (map prV q2).length (drop 0 (map prV q2)))=own 2 (map prV q2))<|ap (blz (map ntV N))<|ap ((zAQ zAW):own 2 (take (map ntV N).length (drop 0 (map ntV N)))=own 2 (map ntV N))<|ap (blz (map zA7 S))<|ap ((zAQ zAW):own 1 (take (map zA7 S).length (drop 0 (map zA7 S)))=own 1 (map zA7 S)) an) (agg [I H,own 2 (map prV q2),own 2 (map ntV N),own 1 (map zA7 S)]) ([(agg [sl (map u8 l),I (a3:Int),int IntKind.u32 t3]).box]) ?_
  exact⟨⟨H,q2,N,S⟩,a3,t3,rfl,rfl,kT,by simp only;omega,by simp only;omega,by simp only;omega,ha3⟩
end
end Go.Eng
