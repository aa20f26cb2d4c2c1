/- The statement NewsFewest jQ for all arguments: further cries that are returned leave none and are as few as can be, and the gaps that are apart, or the errors, are as specified; arguments are not modified. -/
import Derived.Test.YtppbomajegnkeaaGreatPi
import Derived.Test.YtppbomajegnkeaaGreatPd
import Derived.Test.YtppbomajegnkeaaGreatPh
set_option linter.unusedVariables false
set_option linter.unusedSimpArgs false
set_option linter.unusedSectionVars false
set_option maxRecDepth 10000
set_option maxHeartbeats 4000000
open Nat (beq ble blt)
open List (map replicate take drop range length filter)
open Go.Eng.PV (own agg addr func sl bor tup omap bad bool int)
namespace Go.Eng
open Go Go.Proofs
def fwR(n:Nw)(cs:LP)(e:Nat)(st:LI)(i:Nat):Bool×LP :=
 chs (zFR ((zAx n).getD i 0) st) (zFh (zOX n cs e (zAI n (zAM n cs e)) ((zAx n).getD i 0))) ((ofL n i (zAI n (zAM n cs e))).length+1) [] (ofL n i (zAI n (zAM n cs e))) (false,[])
def fwB(n:Nw)(i:Nat):Bool:=decide ((zAi n).getD i 0=i)
def fwL(n:Nw)(cs:LP)(e:Nat)(st:LI)(k:Nat):LP:=(range k).flatMap fun i=>if fwB n i=true then(fwR n cs e st i).2 else[]
def zOg(n:Nw)(cs:LP)(e:Nat)(st:LI)(k:Nat):Bool:=(range k).all fun i=>!fwB n i||(fwR n cs e st i).1
theorem zLK{n:Nw}{cs:LP}{e:Nat}{st:LI}{k:Nat}:fwL n cs e st (k+1)=if fwB n k=true then fwL n cs e st k++(fwR n cs e st k).2 else fwL n cs e st k:=by
 unfold fwL;rw[bV,dD];split
 ·rename_i h;simp[h]
 ·rename_i h;simp[h]
theorem zO9{n:Nw}{cs:LP}{e:Nat}{st:LI}{i:Nat}(ho:NwOk n):(fwR n cs e st i).2.length<=80:=by
 have h1:(ofL n i (zAI n (zAM n cs e))).length<=80:=bN (bJ _ _) (zCD ho);exact zJT _ _ _ _ _ _ 80 (by simp) (by simpa using h1)
theorem zMI{n:Nw}{cs:LP}{e:Nat}{st:LI}(ho:NwOk n):∀ k,(fwL n cs e st k).length<=k*80
 |0=>by simp[fwL]|k+1=>by
  have h1:=zMI (cs:=cs) (e:=e) (st:=st) ho k;have h2:=zO9 (cs:=cs) (e:=e) (st:=st) (i:=k) ho;rw[zLK];split
  ·rw[bt];omega
  ·omega
theorem zYH{n:Nw}{cs:LP}{e:Nat}{st:LI}{k i:Nat}(hi:i<k)(hb:fwB n i=true)(h:(fwR n cs e st i).1=false):zOg n cs e st k=false:=by
 simp only[zOg,dQ];exact⟨i,bx.2 hi,by simp[hb,h]⟩
theorem zTL{n:Nw}{st:LI}(ga:n.s.length<=6)(hr:∀ s∈st,0<=s/\s<n.s.length)(hn:st.Nodup):st.length<=6:=by
 have:=zWK 6 (st.map Int.toNat) (by
  rw[List.Nodup,iu];refine iI (fun{x y} hx hy h=>?_) hn;have:=hr x hx;have:=hr y hy;omega) fun y hy=>by
   obtain⟨x,hx,rfl⟩:=bQ.1 hy;have:=hr x hx;omega
 simpa using this
theorem f57_1(n:Nw)(cs:LP)(e:Int)(st:LI)(ho:OffOk n cs e st):FG 57 [nwV n,prs cs,I e,zA1 st] (.tup [.own 2 ((if zOg n cs e.toNat st n.n.length=true then fwL n cs e.toNat st n.n.length else[]).map prV),I (if zOg n cs e.toNat st n.n.length=true then 0 else 6)]):=by
 have yX:=ho.ev;have j2:=yX.cr;have jk:=j2.w;have hn:=j2.nw;have jh:=j2.len;have he:=yX.ev;have kN:=hn.nl;have ga:=hn.sl.2;have vE:=zTL ga ho.rng ho.nd;have wB:=zCD (w:=zAM n cs e.toNat) hn;have js:∀ g∈zAI n (zAM n cs e.toNat),(0<=g.1/\g.1<n.h)/\(0<=g.2/\g.2<n.n.length):=zOs;have kK:=f121_1 n cs e st ho (by omega);have qP:∀ i:Nat,i<n.n.length->FG 134 [zE9 n cs,.agg [zXx n cs e (zAI n (zAM n cs e.toNat))],prs (ofL n i (zAI n (zAM n cs e.toNat))),I i,zA1 st] (.tup [.own 2 ((fwR n cs e.toNat st i).2.map prV),.bool (fwR n cs e.toNat st i).1]):=fun i hi=>
  f134 n cs (zAI n (zAM n cs e.toNat)) (ofL n i (zAI n (zAM n cs e.toNat))) e i st jk jh he js wB (bN (bJ _ _) wB) hi ho.nd vE ho.rng
 have qO:∀ i:Nat,(ofL n i (zAI n (zAM n cs e.toNat))).length<=80:=fun i=>bN (bJ _ _) wB;have ua:∀ i:Nat,(fwR n cs e.toNat st i).2.length<=80:=fun i=>zO9 hn;have v7:∀ i:Nat,i<n.n.length->fwB n i=true->(fwR n cs e.toNat st i).1=false->zOg n cs e.toNat st n.n.length=false:=fun i hi hb h=>zYH hi hb h;refine zAe Tryz.f57 ?_;refine zAh 3<|zAl 4<|S_a [(12,.ret (tup [zE9 n cs,prs (zAI n (zAM n cs e.toNat)),agg [zXx n cs e (zAI n (zAM n cs e.toNat))],I 0]) [])] (ap kK an)<|S_g 10<|zAc<|zAh 2<|zAD<|zAf<|zAh 1<|zAc<|zAl 2<|S_a [(0,.n n.n.length)] (ap (lnS ntV n.n) an)<|S_g 1<|zAd 0 ?_
 refine zAo (fun(i,q)=>i<=n.n.length/\q=fwL n cs e.toNat st i/\∀ j,j<i->fwB n j=true->(fwR n cs e.toNat st j).1=true) (fun((i:Nat),(q:LP))=>[(14,.own 2 (q.map prV)),(34,I (i:Nat))]) (fun(i,_)=>n.n.length-i) ((0:Nat),([]:LP)) ⟨bG _,by simp[fwL],fun j hj=>absurd hj (bH j)⟩ fun(i,q) ⟨hi,hq,ha⟩=>?_;have kH:q.length<=i*80:=by rw[hq];exact zMI hn i
 by_cases yB:i<n.n.length
 ·have yF:=zLK (n:=n) (cs:=cs) (e:=e.toNat) (st:=st) (k:=i);rw[<- hq] at yF;have hci:=qP i yB;have hoi:=qO i;have wJ:=ua i;have wC:=v7 i yB;have ya:(fwB n i=true->(fwR n cs e.toNat st i).1=true)->∀ j,j<i+1->fwB n j=true->(fwR n cs e.toNat st j).1=true:=fun h j hj=>by
   rcases bC.1 hj with h2|rfl
   ·exact ha j h2
   ·exact h
  clear qP qO ua v7 ha hq;generalize fwR n cs e.toNat st i=R at *;generalize zAI n (zAM n cs e.toNat)=G at *;by_cases hb:(zAi n).getD i 0=i
  ·have jd:fwB n i=true:=decide_eq_true hb;rw[if_pos jd] at yF;refine zAh 1<|zAc<|zAs ((i:Int)<(n.n.length:Int)) (by omega)<|zAf<|zAc<|zAd 1<|zAh 2<|zAc<|zAl 4<|S_a [(2,.ob),(0,.v ((I ((zAi n).getD i 0)).ref))] (ap ((by exact zAt (by omega)):decide (i<8)=true)<|ap (zD9 (F:=zAi n) (m:=8) (j:=i) (by omega):zBO (agg (zBa (zAi n) 8)).ref (i*(fun x=>x.size) Tryz.prog.types[3]) none=some (I ((zAi n).getD i 0)).ref) an)<|S_g 3<|zEs ((zAi n).getD i 0=(i:Int)) (by omega)<|zAf<|zAl 5<|S_a [(9,.ret (own 2 (map prV (ofL n (i:Int) G))) [])] (ap (f135 n cs G ((i:Int)) (by omega) (by omega) (by omega)) an)<|zAn 2<|S_a [(6,.ob),(0,.v (prs (ofL n (i:Int) G))),(6,.ret (tup [own 2 (map prV R.snd),bool R.fst]) []),(1,.yes)] (ap (blz (map prV (ofL n (i:Int) G)))<|ap (frT prV (ofL n (i:Int) G))<|ap hci<|ap ((by exact zLg (zBf _) rfl):(tup [own 2 (map prV R.snd),bool R.fst]).free=true) an)<|S_g 5<|zAc<|zAh 2<|zDw (!R.fst) (fun k0=>(zAh 2<|zAk<|E_a [] an (tup [own 2 [],I 6]) [] ?_ rfl)) (fun k0=>(zAf<|zAb<|zAn 2<|S_a [(1,.ob),(0,.vs (map prV R.snd)),(0,.ob),(0,.ob),(0,.ob),(2,.ob),(0,.ob),(0,.yes),(2,.v (own 2 (map prV (q++R.snd))))] (ap (blz (map prV R.snd))<|ap ((by simp[zBN]):take (map prV R.snd).length (drop 0 (map prV R.snd))=map prV R.snd)<|ap ((by exact all_map _):((map prV R.snd).all fun x=>x.plain)=true)<|ap ((by exact all_map _):((map prV R.snd).all fun y=>y.cells.length.beq ((fun x=>x.size) Tryz.prog.types[37])&&y.cells.all fun q=>q.oneCell)=true)<|ap ((by exact dc.2 (zDU _)):(zBq (map prV R.snd)).isEmpty=true)<|ap (blz (map prV q))<|ap ((by exact zAQ (by simp only[bf,zzLn,zAJ]<;>omega)):((map prV q).length+(map prV R.snd).length).ble zAJ=true)<|ap ((by exact zA7 (by simp<;>omega)):(0+(map prV q).length).beq (map prV q).length=true)<|ap ((by simp):own 2 (map prV q++map prV R.snd)=own 2 (map prV (q++R.snd))) an)<|S_g 1<|zAb<|S_i i<|S_g 1 ?_))
   ·rw[wC jd (by simpa using k0)];rfl
   ·exact rnd (i+1,q++R.2) ⟨by omega,yF.symm,ya fun _=>by simpa using k0⟩ (by simp only;omega)
  ·have hbf:fwB n i=false:=decide_eq_false hb;rw[if_neg (by rw[hbf];simp)] at yF;refine zAh 1<|zAc<|zAs ((i:Int)<(n.n.length:Int)) (by omega)<|zAf<|zAc<|zAd 1<|zAh 2<|zAc<|zAl 4<|S_a [(2,.ob),(0,.v ((I ((zAi n).getD i 0)).ref))] (ap ((by exact zAt (by omega)):decide (i<8)=true)<|ap (zD9 (F:=zAi n) (m:=8) (j:=i) (by omega):zBO (agg (zBa (zAi n) 8)).ref (i*(fun x=>x.size) Tryz.prog.types[3]) none=some (I ((zAi n).getD i 0)).ref) an)<|S_g 3<|zCq ((zAi n).getD i 0=(i:Int)) (by omega)<|zAq 1<|zAb<|S_i i<|S_g 1 ?_
   exact rnd (i+1,q) ⟨by omega,yF.symm,ya fun h=>absurd h (by rw[hbf];simp)⟩ (by simp only;omega)
 ·have e1:i=n.n.length:=by omega
  subst e1;have yE:zOg n cs e.toNat st n.n.length=true:=by
   simp only[zOg,bj,bx];intro j hj;cases hbj:fwB n j
   ·rfl
   ·rw[ha j hj hbj];rfl
  rw[yE,if_pos rfl,if_pos rfl,<- hq];clear qP qO ua v7 ha hq;refine zAh 1<|zAc<|zAu ((n.n.length:Int)<(n.n.length:Int)) (by omega)<|zAq 0<|zAl 1<|S_a [(2,.yes)] (ap ((by exact zA7 (by simp<;>omega)):(beq 0 0&&(map prV q).length.beq (map prV q).length)=true) an)<|S_g 1<|zAk<|E_z [(1,.yes),(1,.v (own 2 (map prV q)))] (ap (blz (map prV q))<|ap ((zAK zAL):own 2 (take (map prV q).length (drop 0 (map prV q)))=own 2 (map prV q)) an)
theorem f57_2(n:Nw)(cs:LP)(e:Int)(st:LI)(hs:Small n)(hl:cs.length<1000000)(yD:st.length<1000000)(ho:¬ zBr n cs e st=0):FG 57 [nwV n,prs cs,I e,zA1 st] (.tup [.own 2 [],I (zBr n cs e st)]):=by
 have hx : FG 121 [nwV n,prs cs,I e,zA1 st] (.tup [.nilp,.sl [],.agg [.nilf],I (zBr n cs e st)]):=by
  by_cases yX:zCf n cs e=0
  ·have qv:=zOk yX
   cases hin:(!st.all fun x=>inB x 0 (n.s.length-1)) with
   |true=>
    rw[show zBr n cs e st=1 by simp only[zBr,yX,hin,if_true]];exact f121_2 n cs e st qv yD hin
   |false=>
    by_cases yU:st.Nodup
    ·exact absurd (by simp only[zBr,yX,hin,yU,if_true];rfl) ho
    ·rw[show zBr n cs e st=5 by simp only[zBr,yX,hin,yU,if_true,if_false];rfl];exact f121_4 n cs e st qv yD hin yU
  ·rw[show zBr n cs e st=zCf n cs e by simp only[zBr,yX,if_false]];exact f121_3 n cs e st hs hl yX
 refine zAe Tryz.f57 ?_;refine zAh 3<|zAl 4<|S_a [(12,.ret (tup [PV.nilp,sl [],agg [PV.nilf],I (zBr n cs e st)]) [])] (ap hx an)<|S_g 10<|zAc<|zAh 2<|zCq (zBr n cs e st=0) (by omega)<|zAh 3<|zAk E_0
end Go.Eng
set_option maxHeartbeats 1000000
namespace Go.Eng
open Go
theorem zPa{l:LP}{g:Int×Int}:has l g=true↔g∈l:=by
 simp only[has,bP,decide_eq_true_eq];exact⟨fun⟨x,h1,h2⟩=>h2▸h1,fun h=>⟨g,h,rfl⟩⟩
theorem zUa{n:Nw}{cs:LP}{la s:Int}{e h x:Nat}(ho:CrW n (cs++[(la,s)]))(hh:h<n.h.toNat)(hx:x<n.n.length)(hl:(zAx n).getD x 0=la)(hg:zKS n (zAM n cs e) h x=true) :
  zFh (zOX n cs e (zAI n (zAM n cs e)) la) (la,s) ((h:Int),(x:Int))=true↔zVN n (la,s) e h ((zAi n).getD x 0).toNat:=by
 have hm:((h:Int),(x:Int))∈zAI n (zAM n cs e):=(zMy hh hx).2 hg;show has (zD6 n (zAM n (cs++[(la,s)]) e) (zAI n (zAM n cs e))) ((h:Int),(x:Int))=true↔_
 rw[zPa,zUT hm,zMy hh hx,zMf ho (la:=la) (fun c hc=>by rw[bw.1 hc]) e hh hx hl];constructor
 ·intro h1;exact cI fun h2=>h1 ⟨hg,fun⟨c,hc,h3⟩=>h2 (by rw[bw.1 hc] at h3;exact h3)⟩
 ·intro h1 h2;exact h2.2 ⟨(la,s),by simp,h1⟩
theorem zM8{n:Nw}{cs ext:LP}{st:LI}{e i:Nat}(ho:CrW n (cs++ext))(hext:∀ c∈ext,c∈zFR ((zAx n).getD i 0) st)(y8:∀ x,x<n.n.length->(zAi n).getD x 0=i->(zAx n).getD x 0=(zAx n).getD i 0) :
  (∀ g∈ofL n i (zAI n (zAM n cs e)),∃ c∈ext,zFh (zOX n cs e (zAI n (zAM n cs e)) ((zAx n).getD i 0)) c g=true)↔ofL n i (zAI n (zAM n (cs++ext) e))=[]:=by
 have ue:∀ c∈ext,c.1=(zAx n).getD i 0:=fun c hc=>by
  obtain⟨s,_,rfl⟩:=bQ.1 (hext c hc);rfl
 have jk:∀ c∈ext,CrW n (cs++[c]):=fun c hc=>by
  have hl:=ho.len;rw[bt] at hl;have:=fT hc;refine⟨ho.nw,by rw[bt,bX];omega,fun y hy=>?_⟩;rcases bk.1 hy with hy|hy
  ·exact ho.cs y (bk.2 (.inl hy))
  ·rw[bw.1 hy];exact ho.cs c (bk.2 (.inr hc))
 have kK:∀ (w:LI) (g:Int×Int),g∈ofL n i (zAI n w)↔∃ h x:Nat,h<n.h.toNat/\x<n.n.length/\g=((h:Int),(x:Int))/\zKS n w h x=true/\(zAi n).getD x 0=i:=by
  intro w g;simp only[ofL,bT,zPv,bF,decide_eq_false_iff_not,fO];constructor
  ·rintro⟨⟨h,x,h1,h2,rfl,h3⟩,h4⟩;exact⟨h,x,h1,h2,rfl,h3,by simpa using h4⟩
  ·rintro⟨h,x,h1,h2,rfl,h3,h4⟩;exact⟨⟨h,x,h1,h2,rfl,h3⟩,by simpa using h4⟩
 rw[dP];constructor
 ·intro hc g hg;obtain⟨h,x,h1,h2,rfl,h3,h4⟩:=(kK _ g).1 hg;have hl:=y8 x h2 h4;obtain⟨h5,h6⟩:=(zMf ho ue e h1 h2 hl).1 h3;obtain⟨c,qD,wO⟩:=hc _ ((kK _ _).2 ⟨h,x,h1,h2,rfl,h5,h4⟩);have jM:=ue c qD;have vK:c=((zAx n).getD i 0,c.2):=by rw[<- jM]
  rw[vK] at wO;have wx:=jk c qD;rw[vK] at wx;have:=(zUa wx h1 h2 hl h5).1 wO;rw[<- vK] at this;exact h6 ⟨c,qD,this⟩
 ·intro hn g hg;obtain⟨h,x,h1,h2,rfl,h3,h4⟩:=(kK _ g).1 hg;have hl:=y8 x h2 h4;refine cI fun jT=>hn _ ((kK _ _).2 ⟨h,x,h1,h2,rfl,(zMf ho ue e h1 h2 hl).2 ⟨h3,fun⟨c,qD,j2⟩=>jT ⟨c,qD,?_⟩⟩,h4⟩);have jM:=ue c qD;have vK:c=((zAx n).getD i 0,c.2):=by rw[<- jM]
  rw[vK] at j2 ⊢;have wx:=jk c qD;rw[vK] at wx;exact(zUa wx h1 h2 hl h3).2 j2
end Go.Eng
set_option maxHeartbeats 1000000
namespace Go.Eng
open Go
theorem zTJ:∀ (a b:LI),a.Nodup->(∀ x∈a,x∈b)->a.length<=b.length
 |[],_,_,_=>by simp|x::a,b,hn,h=>by
  rw[cz] at hn;have hx:=h x (by simp);have:=zTJ a (b.erase x) hn.2 fun y hy=>(List.mem_erase_of_ne (a:=y) (b:=x) (fun e=>hn.1 (by rw[<- e];exact hy))).2 (h y (by simp[hy]));rw[iH hx] at this;have:=fT hx;rw[bE];omega
theorem zDA{n:Nw}(ho:NwOk n){x i:Nat}(hx:x<n.n.length)(hi:i<n.n.length):(zAx n).getD x 0=(zAx n).getD i 0↔(zAi n).getD x 0=(zAi n).getD i 0:=by
 obtain⟨l,a1,a2,a3,_,a5⟩:=zBX ho hx;obtain⟨m,b1,b2,b3,_,b5⟩:=zBX ho hi;unfold chn at *;constructor
 ·intro h;have:l=m:=by omega
  subst this;omega
 ·intro h;have h1:=a5 m b2 (by omega);have h2:=b5 l a2 (by omega);omega
theorem zZU{n:Nw}{cs:LP}{e:Nat}{st:LI}{i:Nat}(ho:CrW n cs)(yO:cs.length<=16)(hn:st.Nodup)(hl6:st.length<=6)(yV:∀ s∈st,0<=s/\s<n.s.length)(hi:i<n.n.length)(wJ:(zAi n).getD i 0=i) :
  lsN n cs e ((zAx n).getD i 0) st (2 ^ st.length)=if (fwR n cs e st i).1=true then((fwR n cs e st i).2.length:Int) else -1:=by
 have hN:=ho.nw;obtain⟨l0,ul,v6,_⟩:=zBX hN hi;have hR:=zUx (zFR ((zAx n).getD i 0) st) (zFh (zOX n cs e (zAI n (zAM n cs e)) ((zAx n).getD i 0))) ((ofL n i (zAI n (zAM n cs e))).length+1) [] (ofL n i (zAI n (zAM n cs e))) (false,[]) (by omega);have uk:chs (zFR ((zAx n).getD i 0) st) (zFh (zOX n cs e (zAI n (zAM n cs e)) ((zAx n).getD i 0))) ((ofL n i (zAI n (zAM n cs e))).length+1) [] (ofL n i (zAI n (zAM n cs e))) (false,[])=fwR n cs e st i:=rfl;rw[uk] at hR;have hclr:∀ l:LI,(∀ x∈l,x∈st)->l.length<=100->(zOT n cs e ((zAx n).getD i 0) l=false↔zNl (zFR ((zAx n).getD i 0) st) (zFh (zOX n cs e (zAI n (zAM n cs e)) ((zAx n).getD i 0))) (zJZ ((zAx n).getD i 0) l) (ofL n i (zAI n (zAM n cs e)))):=by
  intro l hl ug;have yY:∀ c∈zJZ ((zAx n).getD i 0) l,c∈zFR ((zAx n).getD i 0) st:=fun c hc=>by
   obtain⟨s,hs,rfl⟩:=bQ.1 hc;exact bQ.2 ⟨s,hl s hs,rfl⟩
  have how:CrW n (cs++zJZ ((zAx n).getD i 0) l):=⟨hN,by rw[bt,zJZ,bf];omega,fun c hc=>by
   rcases bk.1 hc with hc|hc
   ·exact ho.cs c hc
   ·obtain⟨s,hs,rfl⟩:=bQ.1 hc;exact⟨⟨by simp only[ul];omega,by simp only[ul];omega⟩,yV s (hl s hs)⟩⟩
  have kY:=zM8 (e:=e) (st:=st) (i:=i) how yY fun x hx hxi=>(zDA hN hx hi).2 (by rw[hxi,wJ]);unfold zNl;rw[and_iff_right yY,kY,dP];simp only[zOT,cD,decide_eq_true_eq,ofL,bT,bF,decide_eq_false_iff_not,fO,not_and];constructor
  ·intro h g hg hf;obtain⟨h',x,g1,g2,rfl,_⟩:=zD7 hg;exact h _ hg ((zDA hN (x:=((x:Int)).toNat) (by simpa using g2) hi).2 (by rw[hf,wJ]))
  ·intro h g hg hf;obtain⟨h',x,g1,g2,rfl,_⟩:=zD7 hg;exact h _ hg (by rw[(zDA hN (x:=((x:Int)).toNat) (by simpa using g2) hi).1 hf,wJ])
 obtain⟨s1,s2⟩:=zQf (n:=n) (cs:=cs) (e:=e) (la:=(zAx n).getD i 0) (st:=st) (2 ^ st.length);have vF:∀ s,(∀ x∈zIC st s st.length,x∈st)/\(zIC st s st.length).length<=100:=fun s=>⟨fun x hx=>zIZ _ (bi _) hx,by have:=zI1 (st:=st) (set:=s) st.length;omega⟩;by_cases hr:(fwR n cs e st i).1=true
 ·rw[if_pos hr];rcases hR.new with h|⟨_,ext,h2,h3,h4⟩
  ·rw[h] at hr;cases hr
  rw[da] at h2;obtain⟨s,g1,g2⟩:=zQx (st:=st) (fun s=>ext.any fun c=>decide (c.2=s)) st.length (bi _);rw[dp] at g2;have yc:∀ x,x∈st.filter (fun s=>ext.any fun c=>decide (c.2=s))↔x∈st/\∃ c∈ext,c.2=x:=fun x=>by
   simp only[bT,bP,decide_eq_true_eq]
  have hZ:(zIC st s st.length).length<=ext.length:=by
   rw[g2];have:=zTJ (st.filter (fun s=>ext.any fun c=>decide (c.2=s))) (ext.map (·.2)) (hn.filter _) fun x hx=>by
    obtain⟨_,c,hc,rfl⟩:=(yc x).1 hx;exact bQ.2 ⟨c,hc,rfl⟩
   simpa using this
  have jr:=(hclr _ (vF s).1 (vF s).2).2 ⟨fun c hc=>by
   obtain⟨x,hx,rfl⟩:=bQ.1 hc;exact bQ.2 ⟨x,(vF s).1 x hx,rfl⟩,fun g hg=>by
   obtain⟨c,hc,wO⟩:=h4 g hg;obtain⟨x,hx,rfl⟩:=bQ.1 (h3 c hc);exact⟨_,bQ.2 ⟨x,by rw[g2];exact(yc x).2 ⟨hx,_,hc,rfl⟩,rfl⟩,wO⟩⟩
  have h5:=s2 s g1 jr;rw[h2];rcases s1 with h6|⟨s',k1,k2,k3⟩
  ·omega
  ·have h7:=hR.best _ ((hclr _ (vF s').1 (vF s').2).1 k2);rw[h2,zJZ,bf,b8] at h7;omega
 ·rw[if_neg hr];rcases s1 with h6|⟨s',k1,k2,k3⟩
  ·exact h6
  ·exact absurd (hR.best _ ((hclr _ (vF s').1 (vF s').2).1 k2)).1 hr
end Go.Eng
set_option maxHeartbeats 1000000
namespace Go.Eng
open Go
def zOx(f:Nat->Int)(l:LN):Int:=(l.map f).foldr (· + ·) 0
theorem zUv{f:Nat->Int}{a b:LN}(h:a.Perm b):zOx f a=zOx f b:=by
 unfold zOx
 induction h with
 |nil=>rfl|cons x _ ih=>simp only[bO,iO,ih]|swap x y l=>simp only[bO,iO];omega|trans _ _ h1 h2=>rw[h1,h2]
theorem zHd{f:Nat->Int}:∀ a b:LN,zOx f (a++b)=zOx f a+zOx f b
 |[],b=>by simp[zOx]|x::a,b=>by
  have ih:=zHd (f:=f) a b;unfold zOx at *;simp only[iy,bO,iO,ih];omega
theorem zSB{n:Nw}(ho:NwOk n){j:Nat}(hj:j<n.n.length):(zE7 n j>=0)↔(zAx n).getD j 0≠j:=by
 obtain⟨l,a1,a2,a3,a4,a5⟩:=zBX ho hj;rcases zHy ho hj with⟨g1,g2⟩|⟨k,g1,g2,g3,g4,_⟩
 ·have:=g2 l a2 a3;omega
 ·have:=a5 k g3 g4;omega
theorem zRD{n:Nw}(ho:NwOk n):(((range n.n.length).filter (fwB n)).map fun i=>((zAx n).getD i 0).toNat).Perm ((range n.n.length).filter fun j=>decide ((zAx n).getD j 0=j)):=by
 refine(List.perm_ext_iff_of_nodup ?_ (List.nodup_range.filter _)).2 fun x=>?_
 ·rw[List.Nodup,iu];refine iI (fun{a b} ha hb h e=>h ?_) (List.nodup_range.filter (fwB n));simp only[bT,bx,fwB,decide_eq_true_eq] at ha hb;obtain⟨l,a1,a2,_⟩:=zBX ho ha.1;obtain⟨m,b1,b2,_⟩:=zBX ho hb.1;have e2:(zAx n).getD a 0=(zAx n).getD b 0:=by omega
  have:=(zDA ho ha.1 hb.1).1 e2;omega
 ·simp only[bQ,bT,bx,fwB,decide_eq_true_eq];constructor
  ·rintro⟨i,⟨h1,h2⟩,rfl⟩;obtain⟨l,a1,a2,a3,_⟩:=zBX ho h1;rw[a1,b7];refine⟨a2,?_⟩;rw[(zDA ho a2 h1).2 a3,a1]
  ·rintro⟨h1,h2⟩;have hf:=zBL ho x h1;have hff:=zG1 ho x h1;refine⟨((zAi n).getD x 0).toNat,⟨by omega,by omega⟩,?_⟩;rw[(zDA ho (x:=((zAi n).getD x 0).toNat) (by omega) h1).2 hff,h2,b7]
end Go.Eng
set_option maxHeartbeats 1000000
namespace Go.Eng
open Go
theorem zTY{n:Nw}{cs:LP}{e:Nat}{st:LI}(ho:NwOk n):∀ k,k<=n.n.length->lfN n cs e st k=zOx (lfV n cs e st) ((range k).filter fun j=>decide ((zAx n).getD j 0=j))
 |0,_=>rfl|k + 1,hk=>by
  have ih:=zTY (cs:=cs) (e:=e) (st:=st) ho k (by omega);have hf:=zSB ho (j:=k) (by omega);rw[zPW,bV,cR,zHd,<- ih];by_cases h:(zAx n).getD k 0=k
  ·rw[if_neg (fun h2=>hf.1 h2 h),dA,if_pos (decide_eq_true h)];simp[zOx]
  ·rw[if_pos (hf.2 h),dA,if_neg (by rw[decide_eq_true_eq];exact h)];simp[zOx]
theorem zTl{n:Nw}{cs:LP}{e:Nat}{st:LI}:∀ k,((fwL n cs e st k).length:Int)=zOx (fun i=>((fwR n cs e st i).2.length:Int)) ((range k).filter (fwB n))
 |0=>rfl|k + 1=>by
  have ih:=zTl (n:=n) (cs:=cs) (e:=e) (st:=st) k;rw[zLK,bV,cR,zHd,<- ih];by_cases h:fwB n k=true
  ·rw[if_pos h,dA,if_pos h,bt];simp[zOx]
  ·rw[if_neg h,dA,if_neg h];simp[zOx]
theorem zUK{n:Nw}{cs:LP}{e:Nat}{st:LI}(ho:CrW n cs)(yO:cs.length<=16)(hn:st.Nodup)(hl6:st.length<=6)(yV:∀ s∈st,0<=s/\s<n.s.length) :
  zOg n cs e st n.n.length=zVk n cs e st n.n.length/\(zOg n cs e st n.n.length=true->((fwL n cs e st n.n.length).length:Int)=lfN n cs e st n.n.length):=by
 have hN:=ho.nw;have key:∀ i,i<n.n.length->fwB n i=true->lfV n cs e st ((zAx n).getD i 0).toNat=if (fwR n cs e st i).1=true then((fwR n cs e st i).2.length:Int) else -1:=fun i hi hb=>by
  obtain⟨l,a1,_⟩:=zBX hN hi;have:=zZU (e:=e) ho yO hn hl6 yV hi (of_decide_eq_true hb);unfold lfV;rw[cT (by omega)];exact this
 have hp:=zRD hN;have yc:∀ j,j∈((range n.n.length).filter fun j=>decide ((zAx n).getD j 0=j))↔∃ i,(i<n.n.length/\fwB n i=true)/\((zAx n).getD i 0).toNat=j:=fun j=>by
  rw[<- hp.mem_iff];simp only[bQ,bT,bx]
 constructor
 ·rw [cA];simp only [zOg,zVk,bj,bx,bS,bF,decide_eq_true_eq];constructor
  ·intro h j hj;by_cases hl:(zAx n).getD j 0=j
   ·obtain⟨i,⟨h1,h2⟩,rfl⟩:=(yc j).1 (bT.2 ⟨bx.2 hj,decide_eq_true hl⟩);right;rw[key i h1 h2];rcases h i h1 with h3|h3
    ·rw[h2] at h3;cases h3
    ·rw[if_pos h3];omega
   ·exact .inl ((zSB hN hj).2 hl)
  ·intro h i hi;cases hb:fwB n i
   ·exact .inl rfl
   ·right;have hm:=(yc _).2 ⟨i,⟨hi,hb⟩,rfl⟩;rw[bT,bx,decide_eq_true_eq] at hm;rcases h _ hm.1 with h3|h3
    ·exact absurd hm.2 ((zSB hN hm.1).1 h3)
    ·rw[key i hi hb] at h3;by_cases hr:(fwR n cs e st i).1=true
     ·exact hr
     ·rw[if_neg hr] at h3;omega
 ·intro yE;simp only[zOg,bj,bx,bS,bF] at yE;rw[zTl,zTY hN _ (bi _),<- zUv hp];unfold zOx;rw[f8];congr 1;refine de fun i hi=>?_;rw[bT,bx] at hi;show _=lfV n cs e st ((zAx n).getD i 0).toNat
  rw[key i hi.1 hi.2];rcases yE i hi.1 with h3|h3
  ·rw[hi.2] at h3;cases h3
  ·rw[if_pos h3]
end Go.Eng
set_option maxHeartbeats 1000000
namespace Go.Eng
open Go
theorem zTN{n:Nw}{cs:LP}{e:Nat}{st:LI}{i:Nat}(hr:(fwR n cs e st i).1=true):zNl (zFR ((zAx n).getD i 0) st) (zFh (zOX n cs e (zAI n (zAM n cs e)) ((zAx n).getD i 0))) (fwR n cs e st i).2 (ofL n i (zAI n (zAM n cs e))):=by
 have hR:=zUx (zFR ((zAx n).getD i 0) st) (zFh (zOX n cs e (zAI n (zAM n cs e)) ((zAx n).getD i 0))) ((ofL n i (zAI n (zAM n cs e))).length+1) [] (ofL n i (zAI n (zAM n cs e))) (false,[]) (by omega);have uk:chs (zFR ((zAx n).getD i 0) st) (zFh (zOX n cs e (zAI n (zAM n cs e)) ((zAx n).getD i 0))) ((ofL n i (zAI n (zAM n cs e))).length+1) [] (ofL n i (zAI n (zAM n cs e))) (false,[])=fwR n cs e st i:=rfl;rw[uk] at hR;rcases hR.new with h|⟨_,ext,h2,h3⟩
 ·rw[h] at hr;cases hr
 ·rw[da] at h2;rw[h2];exact h3
theorem zMD{n:Nw}{cs:LP}{e:Nat}{st:LI}{c:Int×Int}{k:Nat}:c∈fwL n cs e st k↔∃ i,i<k/\fwB n i=true/\c∈(fwR n cs e st i).2:=by
 simp only[fwL,cS,bx];constructor
 ·rintro⟨i,h1,h2⟩;split at h2
  ·exact⟨i,h1,by assumption,h2⟩
  ·simp at h2
 ·rintro⟨i,h1,h2,h3⟩;exact⟨i,h1,by rw[if_pos h2];exact h3⟩
theorem zRp{n:Nw}{cs:LP}{e:Nat}{st:LI}(ho:CrW n cs)(yO:cs.length<=16)(yV:∀ s∈st,0<=s/\s<n.s.length)(yE:zOg n cs e st n.n.length=true) :
  CrW n (cs++fwL n cs e st n.n.length)/\zAI n (zAM n (cs++fwL n cs e st n.n.length) e)=[]:=by
 have hN:=ho.nw;have h8:=hN.nl;simp only[zOg,bj,bx,bS,bF] at yE;have hin:∀ i,i<n.n.length->fwB n i=true->∀ c∈(fwR n cs e st i).2,c∈zFR ((zAx n).getD i 0) st:=fun i hi hb c hc=>by
  rcases yE i hi with h|h
  ·rw[hb] at h;cases h
  ·exact(zTN h).1 c hc
 have jt:∀ i,i<n.n.length->∀ c∈zFR ((zAx n).getD i 0) st,(0<=c.1/\c.1<n.n.length)/\(0<=c.2/\c.2<n.s.length):=fun i hi c hc=>by
  obtain⟨s,hs,rfl⟩:=bQ.1 hc;obtain⟨l,a1,a2,_⟩:=zBX hN hi;exact⟨⟨by simp only[a1];omega,by simp only[a1];omega⟩,yV s hs⟩
 have hl:=zMI (cs:=cs) (e:=e) (st:=st) hN n.n.length;have hw:CrW n (cs++fwL n cs e st n.n.length):=⟨hN,by rw[bt];omega,fun c hc=>by
  rcases bk.1 hc with hc|hc
  ·exact ho.cs c hc
  ·obtain⟨i,h1,h2,h3⟩:=zMD.1 hc;exact jt i h1 c (hin i h1 h2 c h3)⟩
 refine⟨hw,dP.2 fun g hg=>?_⟩;obtain⟨h,x,hh,hx,rfl,hb⟩:=zD7 hg;have hf:=zBL hN x hx;have hff:=zG1 hN x hx;obtain⟨i,hi⟩:∃ i:Nat,(zAi n).getD x 0=i:=⟨((zAi n).getD x 0).toNat,by omega⟩;have hiN:i<n.n.length:=by omega
 rw[hi,b7] at hff;have hib:fwB n i=true:=decide_eq_true hff;have qr:(fwR n cs e st i).1=true:=by
  rcases yE i hiN with h|h
  ·rw[hib] at h;cases h
  ·exact h
 have qP:=zTN qr;have hwi:CrW n (cs++(fwR n cs e st i).2):=⟨hN,by
   have:=zO9 (cs:=cs) (e:=e) (st:=st) (i:=i) hN;rw[bt];omega,fun c hc=>by
  rcases bk.1 hc with hc|hc
  ·exact ho.cs c hc
  ·exact jt i hiN c (qP.1 c hc)⟩
 have jT:=(zM8 (e:=e) (st:=st) (i:=i) hwi qP.1 fun y hy hyi=>(zDA hN hy hiN).2 (by rw[hyi,hff])).1 qP.2;have hcol:=zSF (a:=fwL n cs e st n.n.length) (b:=(fwR n cs e st i).2) hN (c:=i) (by omega) (fun a ha v=>by
  rw[(zHH (zDm hw).2).ge ha (by omega),(zHH (zDm hwi).2).ge ha (by omega)];refine or_congr fq ⟨fun⟨y,h1,h2,h3,h4⟩=>⟨y,h1,h2,?_,h4⟩,fun⟨y,h1,h2,h3,h4⟩=>⟨y,h1,h2,?_,h4⟩⟩
  ·obtain⟨c,g1,g2⟩:=bP.1 h3;obtain⟨i',k1,k2,k3⟩:=zMD.1 g1;have jM:c.1=(y:Int):=by simp only[hrB,bb,decide_eq_true_eq] at g2;exact g2.1
   obtain⟨s,_,rfl⟩:=bQ.1 (hin i' k1 k2 c k3);obtain⟨l,a1,a2,a3,_⟩:=zBX hN k1;have hly:l=y:=by simp only at jM;omega
   subst hly;have uh:=of_decide_eq_true k2;unfold chn at a3;have:i'=i:=by omega
   subst this;exact bP.2 ⟨_,k3,g2⟩
  ·obtain⟨c,g1,g2⟩:=bP.1 h3;exact bP.2 ⟨c,zMD.2 ⟨i,hiN,hib,g1⟩,g2⟩) e h hh
 have kR:=fun v=>zFe (zDm hw).1 (zDm hw).2 hw (c:=i) (by omega) e h v hh;have wE:=fun v=>zFe (zDm hwi).1 (zDm hwi).2 hwi (c:=i) (by omega) e h v hh;have uX:(zAM n (cs++fwL n cs e st n.n.length) e).getD (h*8+i) 0=(zAM n (cs++(fwR n cs e st i).2) e).getD (h*8+i) 0:=by
  have e1:=(wE ((zAM n (cs++fwL n cs e st n.n.length) e).getD (h*8+i) 0)).2 (((kR _).1 (fE _)).imp id (hcol _).1);have e2:=(kR ((zAM n (cs++(fwR n cs e st i).2) e).getD (h*8+i) 0)).2 (((wE _).1 (fE _)).imp id (hcol _).2);omega
 have jR:zKS n (zAM n (cs++(fwR n cs e st i).2) e) h x=true:=by
  simp only[zKS,hi,b7] at hb ⊢;rw[<- uX];exact hb
 have:((h:Int),(x:Int))∈ofL n i (zAI n (zAM n (cs++(fwR n cs e st i).2) e)):=bT.2 ⟨(zMy hh hx).2 jR,by simp only[b7,hi];simp⟩;rw[jT] at this;simp at this
end Go.Eng
set_option maxHeartbeats 1000000
namespace Go.Eng
open Go
theorem zNZ{n:Nw}{cs:LP}{i s:Int}{e:Nat}{g:Int×Int}(ho:CrW n (cs++[(i,s)]))(hg:g∈zD6 n (zAM n (cs++[(i,s)]) e) (zAI n (zAM n cs e))):(zAi n).getD g.2.toNat 0=(zAi n).getD i.toNat 0:=by
 obtain⟨kA,wF⟩:=bT.1 hg;obtain⟨h,x,hh,hx,rfl,hb⟩:=zD7 kA;have hN:=ho.nw;have h8:=hN.nl;have hf:=zBL hN x hx;refine cI fun hI=>?_;simp only[b7] at hI;have jT:=zLH (a:=[(i,s)]) hN (c:=((zAi n).getD x 0).toNat) (by omega) (fun a ha=>by
  rw[(zHH (zDm ho).2).ge ha (by omega)];rintro(h1|⟨y,h1,h2,h3,h4⟩)
  ·omega
  ·obtain⟨c,g1,g2⟩:=bP.1 h3;rw[bw.1 g1] at g2;simp only[hrB,bb,decide_eq_true_eq] at g2;rw[g2.1,b7] at hI;omega) e h hh
 have hu:=fun v=>zFe (zDm ho).1 (zDm ho).2 ho (c:=((zAi n).getD x 0).toNat) (by omega) e h v hh;simp only[zKS,bb,decide_eq_true_eq] at hb;simp only[zV1,b7,decide_eq_true_eq] at wF;have u1:=(hu x).2 (.inl (by omega));rcases(hu ((zAM n (cs++[(i,s)]) e).getD (h*8+((zAi n).getD x 0).toNat) 0)).1 (fE _) with u2|u2
 ·omega
 ·omega
def jnB(n:Nw)(cs:LP)(e:Nat)(G:LP)(st:LI)(x y:Int×Int):Bool:=(zM1 n cs e G st n.n.length).any fun c=>has c x&&has c y
def apL(n:Nw)(cs:LP)(e:Nat)(st:LI):LP:=aps (jnB n cs e (zAI n (zAM n cs e)) st) (zAI n (zAM n cs e))
def apN(n:Nw)(cs:LP)(e:Nat)(st:LI)(k:Nat):LP:=(range k).flatMap fun i=>if fwB n i=true then aps (jnB n cs e (zAI n (zAM n cs e)) st) (ofL n i (zAI n (zAM n cs e))) else[]
theorem zQN{n:Nw}{cs:LP}{e:Nat}{st:LI}{k:Nat}:apN n cs e st (k+1)=if fwB n k=true then apN n cs e st k++aps (jnB n cs e (zAI n (zAM n cs e)) st) (ofL n k (zAI n (zAM n cs e))) else apN n cs e st k:=by
 unfold apN;rw[bV,dD];split
 ·rename_i h;simp[h]
 ·rename_i h;simp[h]
theorem zQd{n:Nw}{w:LI}:(zAI n w).Pairwise fun x y=>x.1<y.1\/x.1=y.1/\x.2<y.2:=by
 have hR:∀ h k,(zOe n w h k).Pairwise fun x y=>x.1<y.1\/x.1=y.1/\x.2<y.2:=fun h k=>by
  unfold zOe;rw[iu];exact(iU.sublist dU).imp fun{a b} h=>.inr ⟨rfl,by simp only;omega⟩
 unfold zAI zRX;rw[List.pairwise_flatMap];refine⟨fun a _=>hR a _,iU.imp fun{a b} hab x hx y hy=>.inl ?_⟩;obtain⟨p,_,rfl⟩:=bQ.1 hx;obtain⟨q,_,rfl⟩:=bQ.1 hy;simp only;omega
theorem zYd{n:Nw}{w:LI}:(zAI n w).Nodup:=zQd.imp fun{a b} h e=>by
 rw[e] at h;omega
def zTb(n:Nw)(g:Int×Int):Nat:=((zAi n).getD g.2.toNat 0).toNat
theorem zWP{n:Nw}{cs:LP}{e:Nat}{st:LI}(ho:CrW n cs)(yO:cs.length<=16)(yV:∀ s∈st,0<=s/\s<n.s.length){i:Nat}(hi:i<n.n.length) :
  (if fwB n i=true then aps (jnB n cs e (zAI n (zAM n cs e)) st) (ofL n i (zAI n (zAM n cs e))) else[])=(apL n cs e st).filter fun x=>decide (zTb n x=i):=by
 have hN:=ho.nw;have hfx:∀ g∈zAI n (zAM n cs e),0<=(zAi n).getD g.2.toNat 0/\g.2.toNat<n.n.length:=fun g hg=>by
  obtain⟨h,x,hh,hx,rfl,_⟩:=zD7 hg;have:=zBL hN x hx;simp only[b7];omega
 have yY:(apL n cs e st).Sublist (zAI n (zAM n cs e)):=zH5 _ _ _ (bi _);have wW:∀ x y,jnB n cs e (zAI n (zAM n cs e)) st x y=true->decide (zTb n x=i)=decide (zTb n y=i):=fun x y h=>by
  simp only[jnB,bP,bb,zPa,zM1,cS,bx,bQ] at h;obtain⟨c,⟨j,hj,s,hs,rfl⟩,h1,h2⟩:=h;have how:CrW n (cs++[((j:Int),s)]):=zLO ho (by omega) ⟨⟨by simp only;omega,by simp only;omega⟩,yV s hs⟩;have e1:=zNZ how h1;have e2:=zNZ how h2;unfold zTb;rw[e1,e2]
 split
 ·rename_i hb;have hf:=zIb (J:=jnB n cs e (zAI n (zAM n cs e)) st) _ (zAI n (zAM n cs e)) (bi _) (fun x=>decide (zTb n x=i)) wW;unfold apL;rw[hf];congr 1;refine dv fun g hg=>?_;have:=hfx g hg;unfold zTb;rw[cA];simp only[bF,decide_eq_false_iff_not,fO,decide_eq_true_eq];omega
 ·rename_i hb;symm;refine iS.2 fun g hg=>?_;have:=hfx g (yY.subset hg);have h2:=zG1 hN _ this.2;rw[decide_eq_true_eq];rintro rfl;refine hb (decide_eq_true ?_);unfold zTb;rw[h2,cT this.1]
theorem zW2{n:Nw}{cs:LP}{e:Nat}{st:LI}(ho:CrW n cs)(yO:cs.length<=16)(yV:∀ s∈st,0<=s/\s<n.s.length) :
  zZ6 (apN n cs e st n.n.length)=apL n cs e st:=by
 have hN:=ho.nw;have yY:(apL n cs e st).Sublist (zAI n (zAM n cs e)):=zH5 _ _ _ (bi _);refine zX4 ?_ ((zQd.sublist yY).imp fun{a b} h=>by
  simp only[zLv,bS,bb,decide_eq_true_eq];omega)
 have e1:apN n cs e st n.n.length=(range n.n.length).flatMap fun i=>(apL n cs e st).filter fun x=>decide (zTb n x=i):=by
  unfold apN;rw[f0,f0];congr 1;exact de fun i hi=>zWP ho yO yV (bx.1 hi)
 rw[e1];have e2:((apL n cs e st).filter fun x=>decide (zTb n x<n.n.length))=apL n cs e st:=fI.2 fun g hg=>by
  obtain⟨h,x,hh,hx,rfl,_⟩:=zD7 (yY.subset hg);have:=zBL hN x hx;rw[decide_eq_true_eq];unfold zTb;simp only[b7];omega
 have:=zLl (zTb n) (apL n cs e st) n.n.length;rwa[e2] at this
abbrev Pp:=(Int×Int)×(Int×Int)
def zUA(M:List Pp)(p:Pp):List Pp:=if p∈M then M else M++[p]
theorem zV3{M:List Pp}{p q:Pp}:q∈zUA M p↔q∈M\/q=p:=by
 unfold zUA;split
 ·rename_i h;exact⟨.inl,fun h2=>h2.elim id fun e=>e▸h⟩
 ·simp
def jn1(c:LP)(M:List Pp)(a:Int×Int):List Pp:=c.foldl (fun M b=>zUA M (a,b)) M
def jn2(M:List Pp)(c:LP):List Pp:=c.foldl (jn1 c) M
theorem zSR{a:Int×Int}{q:Pp}:∀ (c:LP) (M:List Pp),q∈jn1 c M a↔q∈M\/q.1=a/\q.2∈c
 |[],M=>by simp[jn1]
 | b :: c,M=>by
  have ih:=zSR (a:=a) (q:=q) c (zUA M (a,b));unfold jn1 at ih ⊢;rw[bY,ih,zV3,bD];constructor
  ·rintro((h|rfl)|h)
   ·exact .inl h
   ·exact .inr ⟨rfl,.inl rfl⟩
   ·exact .inr ⟨h.1,.inr h.2⟩
  ·rintro(h|⟨h1,h2|h2⟩)
   ·exact .inl (.inl h)
   ·exact .inl (.inr (fu h1 h2))
   ·exact .inr ⟨h1,h2⟩
theorem zQF{d:LP}{q:Pp}:∀ (c:LP) (M:List Pp),q∈c.foldl (jn1 d) M↔q∈M\/q.1∈c/\q.2∈d
 |[],M=>by simp
 | a :: c,M=>by
  rw[bY,zQF c,zSR,bD];constructor
  ·rintro((h|h)|h)
   ·exact .inl h
   ·exact .inr ⟨.inl h.1,h.2⟩
   ·exact .inr ⟨.inr h.1,h.2⟩
  ·rintro(h|⟨h1|h1,h2⟩)
   ·exact .inl (.inl h)
   ·exact .inl (.inr ⟨h1,h2⟩)
   ·exact .inr ⟨h1,h2⟩
theorem zX7{M:List Pp}{c:LP}{q:Pp}:q∈jn2 M c↔q∈M\/q.1∈c/\q.2∈c:=zQF c M
def jnR(n:Nw)(cs:LP)(e:Nat)(G:LP)(i:Nat)(M:List Pp)(st:LI):List Pp:=st.foldl (fun M s=>jn2 M (zD6 n (zAM n (cs++[((i:Int),s)]) e) G)) M
def jnN(n:Nw)(cs:LP)(e:Nat)(G:LP)(st:LI)(k:Nat):List Pp:=(range k).foldl (fun M i=>jnR n cs e G i M st) []
theorem zVd{n:Nw}{cs G:LP}{M:List Pp}{e:Nat}{i j:Nat}{st:LI}(h:j<st.length):jnR n cs e G i M (st.take (j+1))=jn2 (jnR n cs e G i M (st.take j)) (zD6 n (zAM n (cs++[((i:Int),st.getD j 0)]) e) G):=zDM h
theorem zPR{n:Nw}{cs G:LP}{e:Nat}{st:LI}{k:Nat}:jnN n cs e G st (k+1)=jnR n cs e G k (jnN n cs e G st k) st:=by
 simp only[jnN,bV,cv,bY,cB]
theorem zSJ{n:Nw}{cs G:LP}{e:Nat}{i:Nat}{q:Pp}:∀ (st:LI) (M:List Pp),q∈jnR n cs e G i M st↔q∈M\/∃ s∈st,q.1∈zD6 n (zAM n (cs++[((i:Int),s)]) e) G/\q.2∈zD6 n (zAM n (cs++[((i:Int),s)]) e) G
 |[],M=>by simp[jnR]
 | s :: st,M=>by
  have ih:=zSJ (n:=n) (cs:=cs) (G:=G) (e:=e) (i:=i) (q:=q) st (jn2 M (zD6 n (zAM n (cs++[((i:Int),s)]) e) G));unfold jnR at ih ⊢;rw[bY,ih,zX7];simp only[bD];constructor
  ·rintro((h|h)|⟨s',h1,h2⟩)
   ·exact .inl h
   ·exact .inr ⟨s,.inl rfl,h⟩
   ·exact .inr ⟨s',.inr h1,h2⟩
  ·rintro(h|⟨s',rfl|h1,h2⟩)
   ·exact .inl (.inl h)
   ·exact .inl (.inr h2)
   ·exact .inr ⟨s',h1,h2⟩
theorem zUb{n:Nw}{cs G:LP}{e:Nat}{st:LI}{q:Pp}:∀ k,q∈jnN n cs e G st k↔∃ i,i<k/\∃ s∈st,q.1∈zD6 n (zAM n (cs++[((i:Int),s)]) e) G/\q.2∈zD6 n (zAM n (cs++[((i:Int),s)]) e) G
 |0=>by simp[jnN]
 | k + 1=>by
  rw[zPR,zSJ,zUb k];constructor
  ·rintro(⟨i,h1,h2⟩|h)
   ·exact⟨i,by omega,h2⟩
   ·exact⟨k,by omega,h⟩
  ·rintro⟨i,h1,h2⟩;by_cases hk:i=k
   ·subst hk;exact .inr h2
   ·exact .inl ⟨i,by omega,h2⟩
def jpB(M:List Pp)(x y:Int×Int):Bool:=decide ((x,y)∈M)&&decide (x≠y)
theorem zWT{n:Nw}{cs G:LP}{e:Nat}{st:LI}{x y:Int×Int}(h:x≠y):jpB (jnN n cs e G st n.n.length) x y=jnB n cs e G st x y:=by
 rw[cA];simp only[jpB,jnB,bb,decide_eq_true_eq,zUb,bP,zPa,zM1,cS,bx,bQ];constructor
 ·rintro⟨⟨i,h1,s,h2,h3⟩,_⟩;exact⟨_,⟨i,h1,s,h2,rfl⟩,h3⟩
 ·rintro⟨_,⟨i,h1,s,h2,rfl⟩,h3⟩;exact⟨⟨i,h1,s,h2,h3⟩,h⟩
theorem zZm{n:Nw}{cs:LP}{e:Nat}{st:LI}{i:Nat}:aps (jpB (jnN n cs e (zAI n (zAM n cs e)) st n.n.length)) (ofL n i (zAI n (zAM n cs e)))=aps (jnB n cs e (zAI n (zAM n cs e)) st) (ofL n i (zAI n (zAM n cs e))) :=
 zKG _ _ (bi _) (zYd.sublist dU) fun _ _ _ _ h=>zWT h
end Go.Eng
set_option maxRecDepth 10000
set_option maxHeartbeats 4000000
namespace Go.Eng
open Go Go.Proofs
theorem zQl(a b c d:Int):eqT Tryz.prog 19 108 (.agg [I a,I b]) (.agg [I c,I d])=some (a==c&&b==d):=by
 have s1:eqT Tryz.prog 19 108 (.agg [I a,I b]) (.agg [I c,I d])=(match some (a==c) with|some true=>zRL (eqT Tryz.prog 18) (shT Tryz.prog) (.agg [I a,I b]) (.agg [I c,I d]) (zP2 Tryz.prog 108).tail|r=>r):=by kernel_rfl
 have s2:zRL (eqT Tryz.prog 18) (shT Tryz.prog) (.agg [I a,I b]) (.agg [I c,I d]) (zP2 Tryz.prog 108).tail=(match some (b==d) with|some true=>some true|r=>r):=by kernel_rfl
 rw[s1];cases a==c
 ·rfl
 simp only[s2,ci];cases b==d<;>rfl
abbrev ppK(p:Pp):PV := .agg [I p.1.1,I p.1.2,I p.2.1,I p.2.2]
theorem zZ3(p q:Pp):eqT Tryz.prog 20 194 (ppK p) (ppK q)=some (decide (p=q)):=by
 obtain⟨⟨a,b⟩,c,d⟩:=p;obtain⟨⟨a',b'⟩,c',d'⟩:=q;have s1:eqT Tryz.prog 20 194 (.agg [I a,I b,I c,I d]) (.agg [I a',I b',I c',I d'])=(match eqT Tryz.prog 19 108 (.agg [I a,I b]) (.agg [I a',I b']) with|some true=>zUF (eqT Tryz.prog 19 108) (some 2) 2 (.agg [I a,I b,I c,I d]) (.agg [I a',I b',I c',I d']) 1 1|r=>r):=by kernel_rfl
 have s2:zUF (eqT Tryz.prog 19 108) (some 2) 2 (.agg [I a,I b,I c,I d]) (.agg [I a',I b',I c',I d']) 1 1=(match eqT Tryz.prog 19 108 (.agg [I c,I d]) (.agg [I c',I d']) with|some true=>some true|r=>r):=by kernel_rfl
 show eqT Tryz.prog 20 194 (.agg [I a,I b,I c,I d]) (.agg [I a',I b',I c',I d'])=_
 rw[s1,zQl];have e:decide (((a,b),(c,d))=((a',b'),(c',d')))=((a==a'&&b==b')&&(c==c'&&d==d')):=by
  rw[cA];simp only[decide_eq_true_eq,bB,bb,beq_iff_eq]
 rw[e];cases a==a'&&b==b'
 ·rfl
 simp only[s2,zQl,ci];cases c==c'&&d==d'<;>rfl
theorem zQk{P:Program}{kt:TypeId}{α:Type}{g:α->PV×PV}{p:α->Bool}{key:PV}(h:∀ x,eqT P 20 kt key (g x).1=some (p x))(h2:∀ x,p x=true->zET key.cells (g x).1.cells=some true):∀ (M:List α) (i:Nat),zCk P kt key (M.map g) i=some ((M.findIdx? p).map (· + i))
 |[],i=>rfl
 | x :: M,i=>by
  have h1:=h x;have h3:=h2 x;rw[bO,fM];have e:g x=((g x).1,(g x).2):=rfl;rw[e];simp only[zCk,h1]
  cases hc:p x with
  |true=>simp only[h3 hc];simp
  | false =>
   rw[zQk h h2 M (i+1)]
   cases M.findIdx? p with
   |none=>simp|some j=>
    simp only[bz,bq,if_false];congr 2;omega
theorem zWO{es es' es'':List (PV×PV)}(h:es'=es''):zAA (fun _=>some (.omap es')) (.omap es) []=some (.omap es'')/\zAP (.omap es) (.omap es'') []=true:=by
 subst h;exact⟨rfl,rfl⟩
theorem zZb(a b:Gp):decide (a≠b) = !(decide (a.1=b.1)&&decide (a.2=b.2)):=by
 rw[cA];simp only[decide_eq_true_eq,bF,fm,decide_eq_false_iff_not,ne_eq,Prod.ext_iff];omega
abbrev ppV(p:Pp):PV×PV:=(ppK p,.bool (!(decide (p.1.1=p.2.1)&&decide (p.1.2=p.2.2))))
theorem zZt(p:Pp):zET (ppK p).cells (ppK p).cells=some true:=by
 show some (p.1.1==p.1.1&&(p.1.2==p.1.2&&(p.2.1==p.2.1&&(p.2.2==p.2.2&&true))))=some true
 simp
theorem zSw(p:Pp)(M:List Pp):zCk Tryz.prog 194 (ppK p) (M.map ppV) 0=some (M.findIdx? fun q=>decide (p=q)):=by
 rw[zQk (p:=fun q=>decide (p=q)) (fun x=>zZ3 p x) (fun x h=>by
  rw[decide_eq_true_eq] at h;subst h;exact zZt p) M 0]
 simp
theorem zZc{p:Pp}{M:List Pp}(h:p∈M):∃ i,zCk Tryz.prog 194 (ppK p) (M.map ppV) 0=some (some i)/\zEP (M.map ppV) i=some (.bool (!(decide (p.1.1=p.2.1)&&decide (p.1.2=p.2.2))))/\(M.map ppV).modify i (fun _=>ppV p)=M.map ppV:=by
 cases hf:M.findIdx? fun q=>decide (p=q) with
 |none=>
  rw[dw] at hf;have:=hf p h;simp at this
 | some i =>
  rw[dj] at hf;obtain⟨hi,h1,_⟩:=hf;rw[decide_eq_true_eq] at h1;refine⟨i,?_,?_,?_⟩
  ·rw[zSw,dj.2];refine⟨hi,by rw[decide_eq_true_eq];exact h1,fun j hj=>?_⟩;rename_i h2;exact h2 j hj
  ·simp only[zEP,cC,bm hi,bz,<- h1]
  ·apply cW;intro j;rw[List.getElem?_modify];by_cases hj:i=j
   ·subst hj;rw[cC,bm hi,bz,<- h1];simp
   ·cases (M.map ppV)[j]?<;>simp[hj]
theorem zYE{p:Pp}{M:List Pp}(h:p∉M):zCk Tryz.prog 194 (ppK p) (M.map ppV) 0=some none:=by
 rw[zSw,dw.2];intro y hy;rw[decide_eq_false_iff_not];rintro rfl;exact h hy
section
variable [Yo]
theorem f193(M:List Pp)(ll:LP)(i:Nat)(hi:i<ll.length)(ug:ll.length<=80)(g:Int×Int):FG 193 [prV g,.ref (.map (M.map ppV)),.ref (prs ll),.ref (I i)] (.bool (!(jpB M g (ll.getD i d0)))):=by
 by_cases hm:(g,ll.getD i d0)∈M
 ·obtain⟨j,yM,jP,_⟩:=zZc hm;have hj:jpB M g (ll.getD i d0) = !(decide (g.1=(ll.getD i d0).1)&&decide (g.2=(ll.getD i d0).2)):=by unfold jpB;rw[decide_eq_true hm,ci,zZb]
  rw[hj];refine zAe Tryz.f193 ?_;refine zAh 2<|zAl 4<|S_a [(2,.v (prV (ll.getD i d0)))] (ap (zBi d0 (by omega):(map prV ll)[i]? = some (prV (ll.getD i d0))) an)<|zAn 2<|S_a [(2,.ix (some j)),(0,.v (bool !(decide ((g,ll.getD i d0).fst.fst=(g,ll.getD i d0).snd.fst)&&decide ((g,ll.getD i d0).fst.snd=(g,ll.getD i d0).snd.snd))))] (ap yM<|ap (jP:zEP (map ppV M) j=some (bool !(decide ((g,ll.getD i d0).fst.fst=(g,ll.getD i d0).snd.fst)&&decide ((g,ll.getD i d0).fst.snd=(g,ll.getD i d0).snd.snd)))) an)<|S_g 2<|zAk E_0
 ·have yM:=zYE hm;have hj:jpB M g (ll.getD i d0)=false:=by unfold jpB;rw[decide_eq_false hm,di]
  rw[hj];refine zAe Tryz.f193 ?_;refine zAh 2<|zAl 4<|S_a [(2,.v (prV (ll.getD i d0)))] (ap (zBi d0 (by omega):(map prV ll)[i]? = some (prV (ll.getD i d0))) an)<|zAn 2<|S_a [(2,.ix none)] (ap yM an)<|S_g 2<|zAk E_0
theorem f212_9(M:List Pp)(ll:LP)(z:Nat)(hz:z<ll.length)(ug:ll.length<=80)(x:Int×Int):FG 212 [prV x,.ref (.func 193 [] [.ref (.map (M.map ppV)),.ref (prs ll),.ref (I z)])] (.bool (!(!(jpB M x (ll.getD z d0))))):=by
 refine zAe Tryz.f212 ?_;refine zAh 2<|zAl 2<|S_a [(9,.ret (bool !jpB M x (ll.getD z d0)) [])] (ap (f193 M ll z (by omega) (by omega) x) an)<|S_g 2<|zAk E_0
theorem f174_9(M:List Pp)(ll:LP)(z:Nat)(hz:z<ll.length)(ug:ll.length<=80)(l:LP)(hl:l.length<4294967296):FG 174 [.sl (l.map prV),.func 212 [] [.ref (.func 193 [] [.ref (.map (M.map ppV)),.ref (prs ll),.ref (I z)])]] (I (zEi (fun x=>!(!(jpB M x (ll.getD z d0)))) l)):=by
 refine zAe Tryz.f174 ?_;refine zAh 1<|zAc<|zAl 1<|S_a [(0,.n l.length)] (ap (lnS prV l) an)<|S_g 1<|zAd 0 ?_
 refine zAo (fun i=>i<=l.length/\∀ j,j<i->(fun x=>!(!(jpB M x (ll.getD z d0)))) (l.getD j d0)=false) (fun i=>[(8,I (i:Nat))]) (fun i=>l.length-i) (0:Nat) (by simp) fun i ⟨hi,ha⟩=>?_;refine zAh 1<|zAc<|zB2 ((i:Int)<(l.length:Int)) (fun k0=>(zAf<|zAc<|zAd 1<|zAh 2<|zAl 3<|S_a [(2,.v (prV (l.getD i d0)))] (ap (zBi d0 (by omega):(map prV l)[i]? = some (prV (l.getD i d0))) an)<|zAn 1<|S_a [(7,.ret (bool !!jpB M (l.getD i d0) (ll.getD z d0)) [])] (ap (f212_9 M ll z (by omega) (by omega) (l.getD i d0)) an)<|zAR<|zDw (!!jpB M (l.getD i d0) (ll.getD z d0)) (fun k1=>(zAh 2<|zAk<|E_a [] an (I (i:Int)) [] ?_ rfl)) (fun k1=>(zAf<|zAb<|S_i i<|S_g 1 ?_)))) (fun k0=>(zAq 0<|zAh 1<|zAk<|E_a [] an (I (-1)) [] ?_ rfl))
 ·rw[zBK (i:=i) (by omega) (fun j hj=>by rw[<- zAp (d:=d0)];exact ha j hj) (by rw[<- zAp (d:=d0)];first|assumption|exact decide_eq_true ‹_›|(simp only[bF,decide_eq_false_iff_not];assumption))]
 ·refine⟨i+1,⟨by omega,fun j hj=>?_⟩,by omega,by kernel_rfl,by kernel_rfl⟩;rcases bC.1 hj with h|rfl
  ·exact ha j h
  ·first|assumption|exact decide_eq_false ‹_›|(simp only[bI,decide_eq_true_eq];first|assumption|(apply db;assumption))
 ·rw[zB6 fun j hj=>by rw[<- zAp (d:=d0)];exact ha j (by omega)]
theorem f211_9(M:List Pp)(ll:LP)(z:Nat)(hz:z<ll.length)(ug:ll.length<=80)(l:LP)(hl:l.length<4294967296):FG 211 [.sl (l.map prV),.func 212 [] [.ref (.func 193 [] [.ref (.map (M.map ppV)),.ref (prs ll),.ref (I z)])]] (.bool (l.any (fun x=>!(!(jpB M x (ll.getD z d0)))))):=by
 refine zAe Tryz.f211 ?_;refine zAh 1<|zAl 2<|S_a [(7,.ret (I (zEi (fun x=>!!jpB M x (ll.getD z d0)) l)) [])] (ap (f174_9 M ll z (by omega) (by omega) l (by omega)) an)<|S_g 2<|zAk<|E_a [] an (bool (decide (zEi (fun x=>!!jpB M x (ll.getD z d0)) l>=0))) [] ?_ rfl
 rw[zDI]
theorem f192_9(M:List Pp)(ll:LP)(z:Nat)(hz:z<ll.length)(ug:ll.length<=80)(l:LP)(hl:l.length<4294967296):FG 192 [.sl (l.map prV),.func 193 [] [.ref (.map (M.map ppV)),.ref (prs ll),.ref (I z)]] (.bool (l.all (fun x=>!(jpB M x (ll.getD z d0))))):=by
 refine zAe Tryz.f192 ?_;refine zAh 2<|zAl 2<|S_a [(12,.ret (bool (l.any fun x=>!!jpB M x (ll.getD z d0))) [])] (ap (f211_9 M ll z (by omega) (by omega) l (by omega)) an)<|S_g 2<|zAk<|E_a [] an (bool !l.any fun x=>!!jpB M x (ll.getD z d0)) [] ?_ rfl
 simp[cX]
end
end Go.Eng
set_option maxRecDepth 10000
set_option maxHeartbeats 4000000
namespace Go.Eng
open Go Go.Proofs
theorem zP6{J:Gp->Gp->Bool}{l ch q:List Gp}{i:Nat}(h:i<l.length):srh J (l.drop i) ch q=if q.length<ch.length+(l.length-i) then srh J (l.drop (i+1)) ch (if okB J ch (l.getD i d0)=true then srh J (l.drop (i+1)) (ch++[l.getD i d0]) (btr (ch++[l.getD i d0]) q) else q) else q:=by
 have e1:l.length-(i+1)+1=l.length-i:=by omega
 rw[b9 h,srh,dI,e1,zAp h]
theorem zRW{J:Gp->Gp->Bool}{l ch q:List Gp}{i:Nat}(h:l.length<=i):srh J (l.drop i) ch q=q:=by
 rw[dt h];rfl
section
variable [Yo]
abbrev zGR:List PV:=[.addr 50000000 [] 0 0 none,.addr 50000001 [] 0 0 none,.addr 50000002 [] 0 0 none,.addr 50000003 [] 0 0 none]
abbrev zL6(l:LP)(M:List Pp)(o:LP):List PV:=[.box (.own 2 (o.map prV)),.box (.sl (l.map prV)),.box (.map (M.map ppV)),.box (.func 191 [] zGR)]
theorem f191(l:LP)(M:List Pp)(hl:l.length<=80):∀ (k fr:Nat) (ch o:LP),l.length-fr<k->fr<=l.length->ch.length<=fr->o.length<=80 ->
  zCC Tryz.prog zHk 191 (.sl (ch.map prV)::I fr::zGR) (zL6 l M o) (.tup []) (zL6 l M (srh (jpB M) (l.drop fr) ch (btr ch o))):=by
 intro k
 induction k with
 |zero=>intro fr ch o h;exact absurd h (bH _)
 | succ k ih =>
  intro fr ch o hk uk y8 ho;have hb80:(btr ch o).length<=80:=by unfold btr;split<;>omega
  unfold zL6;refine zAe Tryz.f191 ?_;generalize hR:srh (jpB M) (l.drop fr) ch (btr ch o)=R;refine zTo (fun(q,_)=>q=btr ch o) (fun((q:LP),(x:Bool))=>[(13,.bool x),(50000000,.box (.own 2 (q.map prV)))]) [] ?_ fun(O,x) hO=>?_
  ·clear ih hR;by_cases hc:o.length<ch.length
   ·have jd:btr ch o=ch:=if_pos hc;rw[jd];refine zAl 1<|S_a [(0,.n ch.length)] (ap (lnS prV ch) an)<|S_a [(1,.v (bor 50000000 [(0,0)] 2 0 o.length))] (ap ((by simp):bor 50000000 [(0,0)] 2 0 (map prV o).length=bor 50000000 [(0,0)] 2 0 o.length) an)<|S_g 2<|zAs ((ch.length:Int)>(o.length:Int)) (by omega)<|zAb<|zAn 1<|S_a [(6,.ret (own 2 (map prV ch)) [])] (ap (f123 ch (by omega)) an)<|S_g 1 ?_
    exact⟨(ch,decide ((ch.length:Int)>o.length)),rfl,by kernel_rfl,by kernel_rfl⟩
   ·have jd:btr ch o=o:=if_neg hc;rw[jd];refine zAl 1<|S_a [(0,.n ch.length)] (ap (lnS prV ch) an)<|S_a [(1,.v (bor 50000000 [(0,0)] 2 0 o.length))] (ap ((by simp):bor 50000000 [(0,0)] 2 0 (map prV o).length=bor 50000000 [(0,0)] 2 0 o.length) an)<|S_g 2<|zAu ((ch.length:Int)>(o.length:Int)) (by omega)<|zAf ?_
    exact⟨(o,decide ((ch.length:Int)>o.length)),rfl,by kernel_rfl,by kernel_rfl⟩
  rw[<- hO] at hR hb80;clear hO;refine zAh 3<|zAd 0 ?_
  refine zAo (fun(i,q)=>(fr<=i/\i<=l.length)/\q.length<=80/\srh (jpB M) (l.drop i) ch q=R) (fun((i:Nat),(q:LP))=>[(8,.box (I (i:Nat))),(50000000,.box (.own 2 (q.map prV)))]) (fun(i,_)=>l.length-i) (fr,O) ⟨⟨bi _,uk⟩,hb80,hR⟩ fun(i,q) ⟨⟨wJ,yB⟩,hq,hs⟩=>?_;by_cases yI:i<l.length
  ·rw[zP6 yI] at hs;by_cases hp:q.length<ch.length+(l.length-i)
   ·rw[if_pos hp] at hs;have yX:=f192_9 M l i yI hl ch (by omega);have hev2:(ch.all fun x=>!(jpB M x (l.getD i d0)))=okB (jpB M) ch (l.getD i d0):=rfl;rw[hev2] at yX
    cases yE:okB (jpB M) ch (l.getD i d0) with
    |true=>
     rw[yE] at yX;rw[yE,if_pos rfl] at hs;have ihc:=ih (i+1) (ch++[l.getD i d0]) q (by omega) (by omega) (by rw[bt,bX];omega) hq;have v6:(srh (jpB M) (l.drop (i+1)) (ch++[l.getD i d0]) (btr (ch++[l.getD i d0]) q)).length<=80:=zMw _ _ _ _ (by unfold btr;split<;>(try rw[bt,bX])<;>omega) (by rw[bt,bX,dI];omega);generalize srh (jpB M) (l.drop (i+1)) (ch++[l.getD i d0]) (btr (ch++[l.getD i d0]) q)=q2 at *;unfold zL6 at ihc;clear ih hR hev2 yE;refine zAc<|zAl 2<|S_a [(0,.n l.length)] (ap (lnS prV l) an)<|zAn 2<|zD3 21 ((i:Int)<(l.length:Int)) (by omega) (zAn 1<|S_a [(0,.n ch.length)] (ap (lnS prV ch) an)<|zAn 1<|S_a [(0,.n l.length)] (ap (lnS prV l) an)<|S_a [(1,.v (I (↑(ch.length+l.length):Int)))] (ap ((zBY (by omega) (by omega)):I (IntKind.i64.wrap ((ch.length:Int)+(l.length:Int)))=I (↑(ch.length+l.length):Int)) an)<|zAn 1<|S_a [(1,.v (I (↑(ch.length+l.length-i):Int)))] (ap ((zBY (by omega) (by omega)):I (IntKind.i64.wrap ((↑(ch.length+l.length):Int)-(i:Int)))=I (↑(ch.length+l.length-i):Int)) an)<|S_a [(1,.v (bor 50000000 [(0,0)] 2 0 q.length))] (ap ((by simp):bor 50000000 [(0,0)] 2 0 (map prV q).length=bor 50000000 [(0,0)] 2 0 q.length) an)<|S_g 3<|zAs ((↑(ch.length+l.length-i):Int)>(q.length:Int)) (by omega)<|zAf<|zAc<|zAd 1<|zAl 2<|S_a [(25,.ret (bool true) [])] (ap yX an)<|zAR<|zBD<|zAb<|zAn 2<|S_a [(6,.ret (own 2 (map prV ch)) [])] (ap (f123 ch (by omega)) an)<|zAn 2<|S_a [(2,.v (prV (l.getD i d0)))] (ap (zBi d0 (by omega):(map prV l)[i]? = some (prV (l.getD i d0))) an)<|zAn 2<|S_a [(4,.ob),(0,.ob),(0,.yes),(2,.v (own 2 (map prV (ch++[l.getD i d0]))))] (ap (blz (map prV ch))<|ap ((by exact zAQ (by simp only[bf,zzLn,zAJ]<;>omega)):((map prV ch).length + [prV (l.getD i d0)].length).ble zAJ=true)<|ap ((by exact zA7 (by simp<;>omega)):(0+(map prV ch).length).beq (map prV ch).length=true)<|ap ((zAK (zBH (by kernel_rfl))):own 2 (map prV ch++[prV (l.getD i d0)])=own 2 (map prV (ch++[l.getD i d0]))) an)<|zAn 1<|S_i i<|S_a [(3,.ob),(0,.v (prs (ch++[l.getD i d0]))),(4,.ret (tup []) ([(own 2 (map prV q2)).box,(prs l).box,(PV.map (map ppV M)).box,(func 191 [] zGR).box])),(2,.no),(1,.envv ([(0,prs ch),(2,addr 50000000 [] 0 0 none),(3,addr 50000001 [] 0 0 none),(4,addr 50000002 [] 0 0 none),(5,addr 50000003 [] 0 0 none),(8,(I (i:Int)).box),(13,bool x),(32,bool (decide ((↑(ch.length+l.length-i):Int)>(q.length:Int)))),(37,bool true),(38,func 191 [] [addr 50000000 [] 0 0 none,addr 50000001 [] 0 0 none,addr 50000002 [] 0 0 none,addr 50000003 [] 0 0 none]),(39,prs ch),(40,bad),(41,prs l),(42,I (i:Int)),(43,(prV (l.getD i d0)).ref),(44,prV (l.getD i d0)),(45,bad),(46,prs (ch++[l.getD i d0])),(47,I (i:Int)),(48,I (↑(i+1):Int)),(50000000,(own 2 (map prV q)).box),(50000001,(prs l).box),(50000002,(PV.map (map ppV M)).box),(50000003,(func 191 [] [addr 50000000 [] 0 0 none,addr 50000001 [] 0 0 none,addr 50000002 [] 0 0 none,addr 50000003 [] 0 0 none]).box)]) (prs (ch++[l.getD i d0]))),(4,.ret (tup []) ([(own 2 (map prV q2)).box,(prs l).box,(PV.map (map ppV M)).box,(func 191 [] zGR).box]))] (ap (blz (map prV (ch++[l.getD i d0])))<|ap (frT prV (ch++[l.getD i d0]))<|ap ihc<|ap ((by simp[PV.free,zBf,zDu]):zDu [(own 2 (map prV q2)).box,(prs l).box,(PV.map (map ppV M)).box,(func 191 [] zGR).box]=false)<|ap (And.intro (fZ (by kernel_rfl:Env.frz [(0,prs ch),(2,addr 50000000 [] 0 0 none),(3,addr 50000001 [] 0 0 none),(4,addr 50000002 [] 0 0 none),(5,addr 50000003 [] 0 0 none),(8,(I (i:Int)).box),(13,bool x),(32,bool (decide ((↑(ch.length+l.length-i):Int)>(q.length:Int)))),(37,bool true),(38,func 191 [] [addr 50000000 [] 0 0 none,addr 50000001 [] 0 0 none,addr 50000002 [] 0 0 none,addr 50000003 [] 0 0 none]),(39,prs ch),(40,bad),(41,prs l),(42,I (i:Int)),(43,(prV (l.getD i d0)).ref),(44,prV (l.getD i d0)),(45,bad),(46,own 2 (map prV (ch++[l.getD i d0]))),(47,I (i:Int)),(48,I (↑(i+1):Int)),(50000000,(own 2 (map prV q)).box),(50000001,(prs l).box),(50000002,(PV.map (map ppV M)).box),(50000003,(func 191 [] [addr 50000000 [] 0 0 none,addr 50000001 [] 0 0 none,addr 50000002 [] 0 0 none,addr 50000003 [] 0 0 none]).box)] 46 []=some [(0,prs ch),(2,addr 50000000 [] 0 0 none),(3,addr 50000001 [] 0 0 none),(4,addr 50000002 [] 0 0 none),(5,addr 50000003 [] 0 0 none),(8,(I (i:Int)).box),(13,bool x),(32,bool (decide ((↑(ch.length+l.length-i):Int)>(q.length:Int)))),(37,bool true),(38,func 191 [] [addr 50000000 [] 0 0 none,addr 50000001 [] 0 0 none,addr 50000002 [] 0 0 none,addr 50000003 [] 0 0 none]),(39,prs ch),(40,bad),(41,prs l),(42,I (i:Int)),(43,(prV (l.getD i d0)).ref),(44,prV (l.getD i d0)),(45,bad),(46,sl (zAv (map prV (ch++[l.getD i d0])))),(47,I (i:Int)),(48,I (↑(i+1):Int)),(50000000,(own 2 (map prV q)).box),(50000001,(prs l).box),(50000002,(PV.map (map ppV M)).box),(50000003,(func 191 [] [addr 50000000 [] 0 0 none,addr 50000001 [] 0 0 none,addr 50000002 [] 0 0 none,addr 50000003 [] 0 0 none]).box)]) ((by simp only[show zAv (map prV (ch++[l.getD i d0]))=map prV (ch++[l.getD i d0]) from(by first|exact zAz _|exact zAE _|exact zAB _|exact zA3 (zAE _)|exact zA3 (zAB _)|exact zCH (by simp[zBN]) (zAz _))]):some [(0,prs ch),(2,addr 50000000 [] 0 0 none),(3,addr 50000001 [] 0 0 none),(4,addr 50000002 [] 0 0 none),(5,addr 50000003 [] 0 0 none),(8,(I (i:Int)).box),(13,bool x),(32,bool (decide ((↑(ch.length+l.length-i):Int)>(q.length:Int)))),(37,bool true),(38,func 191 [] [addr 50000000 [] 0 0 none,addr 50000001 [] 0 0 none,addr 50000002 [] 0 0 none,addr 50000003 [] 0 0 none]),(39,prs ch),(40,bad),(41,prs l),(42,I (i:Int)),(43,(prV (l.getD i d0)).ref),(44,prV (l.getD i d0)),(45,bad),(46,sl (zAv (map prV (ch++[l.getD i d0])))),(47,I (i:Int)),(48,I (↑(i+1):Int)),(50000000,(own 2 (map prV q)).box),(50000001,(prs l).box),(50000002,(PV.map (map ppV M)).box),(50000003,(func 191 [] [addr 50000000 [] 0 0 none,addr 50000001 [] 0 0 none,addr 50000002 [] 0 0 none,addr 50000003 [] 0 0 none]).box)]=some [(0,prs ch),(2,addr 50000000 [] 0 0 none),(3,addr 50000001 [] 0 0 none),(4,addr 50000002 [] 0 0 none),(5,addr 50000003 [] 0 0 none),(8,(I (i:Int)).box),(13,bool x),(32,bool (decide ((↑(ch.length+l.length-i):Int)>(q.length:Int)))),(37,bool true),(38,func 191 [] [addr 50000000 [] 0 0 none,addr 50000001 [] 0 0 none,addr 50000002 [] 0 0 none,addr 50000003 [] 0 0 none]),(39,prs ch),(40,bad),(41,prs l),(42,I (i:Int)),(43,(prV (l.getD i d0)).ref),(44,prV (l.getD i d0)),(45,bad),(46,prs (ch++[l.getD i d0])),(47,I (i:Int)),(48,I (↑(i+1):Int)),(50000000,(own 2 (map prV q)).box),(50000001,(prs l).box),(50000002,(PV.map (map ppV M)).box),(50000003,(func 191 [] [addr 50000000 [] 0 0 none,addr 50000001 [] 0 0 none,addr 50000002 [] 0 0 none,addr 50000003 [] 0 0 none]).box)])) (zHa (by first|exact zAz _|exact zAE _|exact zAB _):PV.mapW (inl 46 [] (own 2 (map prV (ch++[l.getD i d0])))) (bor 46 [] 2 0 (map prV (ch++[l.getD i d0])).length)=prs (ch++[l.getD i d0])))<|ap ihc an)<|zAR<|zAc<|zAh 1<|zAb<|S_g 2<|zAb<|zAn 1<|S_i i<|S_g 1 ?_)
     exact rnd (i+1,q2) ⟨⟨by omega,by omega⟩,v6,hs⟩ (by simp only;omega)
    |false=>
     rw[yE] at yX;rw[yE,if_neg (by simp)] at hs;clear ih hR hev2 yE;refine zAc<|zAl 2<|S_a [(0,.n l.length)] (ap (lnS prV l) an)<|zAn 2<|zD3 21 ((i:Int)<(l.length:Int)) (by omega) (zAn 1<|S_a [(0,.n ch.length)] (ap (lnS prV ch) an)<|zAn 1<|S_a [(0,.n l.length)] (ap (lnS prV l) an)<|S_a [(1,.v (I (↑(ch.length+l.length):Int)))] (ap ((zBY (by omega) (by omega)):I (IntKind.i64.wrap ((ch.length:Int)+(l.length:Int)))=I (↑(ch.length+l.length):Int)) an)<|zAn 1<|S_a [(1,.v (I (↑(ch.length+l.length-i):Int)))] (ap ((zBY (by omega) (by omega)):I (IntKind.i64.wrap ((↑(ch.length+l.length):Int)-(i:Int)))=I (↑(ch.length+l.length-i):Int)) an)<|S_a [(1,.v (bor 50000000 [(0,0)] 2 0 q.length))] (ap ((by simp):bor 50000000 [(0,0)] 2 0 (map prV q).length=bor 50000000 [(0,0)] 2 0 q.length) an)<|S_g 3<|zAs ((↑(ch.length+l.length-i):Int)>(q.length:Int)) (by omega)<|zAf<|zAc<|zAd 1<|zAl 2<|S_a [(25,.ret (bool false) [])] (ap yX an)<|zAR<|zAD<|zAf<|zAc<|zAh 1<|zAb<|S_g 2<|zAb<|zAn 1<|S_i i<|S_g 1 ?_)
     exact rnd (i+1,q) ⟨⟨by omega,by omega⟩,hq,hs⟩ (by simp only;omega)
   ·rw[if_neg hp] at hs;rw[<- hs];clear ih hR hs;refine zAc<|zAl 2<|S_a [(0,.n l.length)] (ap (lnS prV l) an)<|zAn 2<|zD3 21 ((i:Int)<(l.length:Int)) (by omega) (zAn 1<|S_a [(0,.n ch.length)] (ap (lnS prV ch) an)<|zAn 1<|S_a [(0,.n l.length)] (ap (lnS prV l) an)<|S_a [(1,.v (I (↑(ch.length+l.length):Int)))] (ap ((zBY (by omega) (by omega)):I (IntKind.i64.wrap ((ch.length:Int)+(l.length:Int)))=I (↑(ch.length+l.length):Int)) an)<|zAn 1<|S_a [(1,.v (I (↑(ch.length+l.length-i):Int)))] (ap ((zBY (by omega) (by omega)):I (IntKind.i64.wrap ((↑(ch.length+l.length):Int)-(i:Int)))=I (↑(ch.length+l.length-i):Int)) an)<|S_a [(1,.v (bor 50000000 [(0,0)] 2 0 q.length))] (ap ((by simp):bor 50000000 [(0,0)] 2 0 (map prV q).length=bor 50000000 [(0,0)] 2 0 q.length) an)<|S_g 3<|zAu ((↑(ch.length+l.length-i):Int)>(q.length:Int)) (by omega)<|zAq 0 E_0)
  ·rw[zRW (by omega)] at hs;rw[<- hs];clear ih hR hs;refine zAc<|zAl 2<|S_a [(0,.n l.length)] (ap (lnS prV l) an)<|zAn 2<|zHx 21 ((i:Int)<(l.length:Int)) (by omega) (S_g 11<|zAD<|zAq 0 E_0)
abbrev zXb(M:List Pp)(l:LP)(i:Nat):PV := .func 193 [] [.ref (.map (M.map ppV)),.ref (prs l),.ref (I i)]
theorem f174_n(M:List Pp)(l:LP)(i:Nat):FG 174 [.nils 0,.func 212 [] [.ref (zXb M l i)]] (I (-1)):=by
 refine zAe Tryz.f174 ?_;refine zAh 1<|zAc<|zAh 3<|zAd 0 ?_
 refine zAo (fun(_:Nat)=>True) (fun(_:Nat)=>[(8,I 0)]) (fun(_:Nat)=>0) (0:Nat) trivial fun _ _=>?_;refine zAh 1<|zAc<|zAD<|zAq 0<|zAh 1<|zAk E_0
theorem f211_n(M:List Pp)(l:LP)(i:Nat):FG 211 [.nils 0,.func 212 [] [.ref (zXb M l i)]] (.bool false):=by
 refine zAe Tryz.f211 ?_;refine zAh 1<|zAl 2<|S_a [(7,.ret (I (-1)) [])] (ap (f174_n M l i) an)<|S_g 2<|zAk E_0
theorem f192_n(M:List Pp)(l:LP)(i:Nat):FG 192 [.nils 0,zXb M l i] (.bool true):=by
 refine zAe Tryz.f192 ?_;refine zAh 2<|zAl 2<|S_a [(12,.ret (bool false) [])] (ap (f211_n M l i) an)<|S_g 2<|zAk E_0
theorem f123a:FG 123 [.nils 0] (.own 2 []):=zIK (fn:=Tryz.f123)
theorem f191a(l:LP)(M:List Pp)(hl:l.length<=80) :
  zCC Tryz.prog zHk 191 (.nils 0::I 0::zGR) (zL6 l M []) (.tup []) (zL6 l M (aps (jpB M) l)):=by
 have hR:=zWR (jpB M) l;rw[show btr [] []=([]:List Gp) from rfl] at hR;generalize aps (jpB M) l=R at *;unfold zL6;refine zAe Tryz.f191 ?_;refine zAc<|zAl 2<|zAn 1<|S_g 2<|zAD<|zAf<|zAh 3<|zAd 0 ?_
 refine zAo (fun(i,q)=>i<=l.length/\q.length<=80/\srh (jpB M) (l.drop i) [] q=R) (fun((i:Nat),(q:LP))=>[(8,.box (I (i:Nat))),(50000000,.box (.own 2 (q.map prV)))]) (fun(i,_)=>l.length-i) ((0:Nat),([]:LP)) ⟨bG _,by simp,hR⟩ fun(i,q) ⟨yB,hq,hs⟩=>?_;by_cases yI:i<l.length
 ·rw[zP6 yI] at hs;by_cases hp:q.length<([]:LP).length+(l.length-i)
  ·rw[if_pos hp,if_pos (show okB (jpB M) [] (l.getD i d0)=true from rfl)] at hs;rw[b8,dh] at hp;have yX:=f192_n M l i;have ihc:=f191 l M hl (l.length+1) (i+1) ([]++[l.getD i d0]) q (by omega) (by omega) (by rw[bt,bX];simp) hq;have v6:(srh (jpB M) (l.drop (i+1)) ([]++[l.getD i d0]) (btr ([]++[l.getD i d0]) q)).length<=80:=zMw _ _ _ _ (by unfold btr;split<;>(try rw[bt,bX])<;>(try simp only[b8])<;>omega) (by rw[bt,bX,dI,b8];omega);generalize srh (jpB M) (l.drop (i+1)) ([]++[l.getD i d0]) (btr ([]++[l.getD i d0]) q)=q2 at *;unfold zL6 at ihc;clear hR;refine zAc<|zAl 2<|S_a [(0,.n l.length)] (ap (lnS prV l) an)<|zAn 2<|zD3 21 ((i:Int)<(l.length:Int)) (by omega) (zAn 3<|S_a [(0,.n l.length)] (ap (lnS prV l) an)<|S_a [(1,.v (I (↑(0+l.length):Int)))] (ap ((zBY (by omega) (by omega)):I (IntKind.i64.wrap ((↑0:Int)+(l.length:Int)))=I (↑(0+l.length):Int)) an)<|zAn 1<|S_a [(1,.v (I (↑(l.length-i):Int)))] (ap ((zBY (by omega) (by omega)):I (IntKind.i64.wrap ((↑(0+l.length):Int)-(i:Int)))=I (↑(l.length-i):Int)) an)<|S_a [(1,.v (bor 50000000 [(0,0)] 2 0 q.length))] (ap ((by simp):bor 50000000 [(0,0)] 2 0 (map prV q).length=bor 50000000 [(0,0)] 2 0 q.length) an)<|S_g 3<|zAs ((↑(l.length-i):Int)>(q.length:Int)) (by omega)<|zAf<|zAc<|zAd 1<|zAl 2<|S_a [(25,.ret (bool true) [])] (ap yX an)<|zAR<|zBD<|zAb<|zAn 2<|S_a [(6,.ret (own 2 []) [])] (ap f123a an)<|zAn 2<|S_a [(2,.v (prV (l.getD i d0)))] (ap (zBi d0 (by omega):(map prV l)[i]? = some (prV (l.getD i d0))) an)<|zAn 4<|S_i i<|S_a [(9,.ret (tup []) ([(own 2 (map prV q2)).box,(prs l).box,(PV.map (map ppV M)).box,(func 191 [] zGR).box])),(2,.no),(6,.ret (tup []) ([(own 2 (map prV q2)).box,(prs l).box,(PV.map (map ppV M)).box,(func 191 [] zGR).box]))] (ap ihc<|ap ((by simp[PV.free,zBf,zDu]):zDu [(own 2 (map prV q2)).box,(prs l).box,(PV.map (map ppV M)).box,(func 191 [] zGR).box]=false)<|ap ihc an)<|zAR<|zAc<|zAh 1<|zAb<|S_g 2<|zAb<|zAn 1<|S_i i<|S_g 1 ?_)
   exact rnd (i+1,q2) ⟨by omega,v6,hs⟩ (by simp only;omega)
  ·rw[if_neg hp] at hs;rw[<- hs];rw[b8,dh] at hp;clear hR hs;refine zAc<|zAl 2<|S_a [(0,.n l.length)] (ap (lnS prV l) an)<|zAn 2<|zD3 21 ((i:Int)<(l.length:Int)) (by omega) (zAn 3<|S_a [(0,.n l.length)] (ap (lnS prV l) an)<|S_a [(1,.v (I (↑(0+l.length):Int)))] (ap ((zBY (by omega) (by omega)):I (IntKind.i64.wrap ((↑0:Int)+(l.length:Int)))=I (↑(0+l.length):Int)) an)<|zAn 1<|S_a [(1,.v (I (↑(l.length-i):Int)))] (ap ((zBY (by omega) (by omega)):I (IntKind.i64.wrap ((↑(0+l.length):Int)-(i:Int)))=I (↑(l.length-i):Int)) an)<|S_a [(1,.v (bor 50000000 [(0,0)] 2 0 q.length))] (ap ((by simp):bor 50000000 [(0,0)] 2 0 (map prV q).length=bor 50000000 [(0,0)] 2 0 q.length) an)<|S_g 3<|zAu ((↑(l.length-i):Int)>(q.length:Int)) (by omega)<|zAq 0 E_0)
 ·rw[zRW (by omega)] at hs;rw[<- hs];clear hR hs;refine zAc<|zAl 2<|S_a [(0,.n l.length)] (ap (lnS prV l) an)<|zAn 2<|zHx 21 ((i:Int)<(l.length:Int)) (by omega) (S_g 11<|zAD<|zAq 0 E_0)
theorem f145(l:LP)(M:List Pp)(hl:l.length<=80):FG 145 [.sl (l.map prV),.map (M.map ppV)] (.own 2 ((aps (jpB M) l).map prV)):=by
 have ql:=f191a l M hl;unfold zL6 at ql;refine zAe Tryz.f145 ?_;refine zAh 3<|zAh 1<|zAh 1<|zAh 2<|zAl 1<|S_a [(8,.ret (tup []) ([(own 2 (map prV (aps (jpB M) l))).box,(prs l).box,(PV.map (map ppV M)).box,(func 191 [] zGR).box]))] (ap ql an)<|zAR<|zAc<|zAb<|S_a [(1,.v (bor 5 [(0,0)] 2 0 (aps (jpB M) l).length))] (ap ((by simp):bor 5 [(0,0)] 2 0 (map prV (aps (jpB M) l)).length=bor 5 [(0,0)] 2 0 (aps (jpB M) l).length) an)<|S_g 1<|zAk<|E_z [(1,.yes),(1,.v (own 2 (map prV (aps (jpB M) l))))] (ap ((by exact zAQ (by simp only[bf,zzLn,zAJ]<;>omega)):(0+(aps (jpB M) l).length).ble (map prV (aps (jpB M) l)).length=true)<|ap ((by simp[zBN]):own 2 (take (aps (jpB M) l).length (drop 0 (map prV (aps (jpB M) l))))=own 2 (map prV (aps (jpB M) l))) an)
end
end Go.Eng
set_option maxRecDepth 10000
set_option maxHeartbeats 4000000
namespace Go.Eng
open Go Go.Proofs
section
variable [Yo]
theorem f146(l:LP)(hl:l.length<=4294967296)(hb:l.all zXR=true):zCC Tryz.prog zHk 146 [.bor zAm [] 2 0 l.length,.func 147 [] []] [.own 2 (l.map prV)] (.tup []) [.own 2 ((zZ6 l).map prV)]:=zOM (g:=147) (fn:=Tryz.f146) l hl hb
end
theorem zUO{c:LP}{M:List Pp}{a:Int×Int}{j:Nat}(h:j<c.length):(c.take (j+1)).foldl (fun M b=>zUA M (a,b)) M=zUA ((c.take j).foldl (fun M b=>zUA M (a,b)) M) (a,c.getD j d0):=zDM h
theorem zUL{c:LP}{M:List Pp}{j:Nat}(h:j<c.length):(c.take (j+1)).foldl (jn1 c) M=jn1 c ((c.take j).foldl (jn1 c) M) (c.getD j d0):=zDM h
theorem zTn{n:Nw}{cs:LP}{e:Nat}{st:LI}(hn:NwOk n):∀ k,(apN n cs e st k).length<=k*80/\(apN n cs e st k).all zXR=true
 |0=>by simp[apN]|k + 1=>by
  obtain⟨h1,h2⟩:=zTn (cs:=cs) (e:=e) (st:=st) hn k;have hs:=zH5 (jnB n cs e (zAI n (zAM n cs e)) st) _ (ofL n k (zAI n (zAM n cs e))) (bi _);have jo:=hs.trans (dU (l:=zAI n (zAM n cs e)));have h3:=jo.length_le;have h4:=zCD (w:=zAM n cs e) hn;have hh:=hn.h;have h8:=hn.nl;rw[zQN];split
  ·refine⟨by rw[bt];omega,?_⟩;rw[ie,h2,ci,bj];intro g hg;obtain⟨h,x,hh,hx,rfl,_⟩:=zD7 (jo.subset hg);simp only[zXR,bb,decide_eq_true_eq];omega
  ·exact⟨by omega,h2⟩
theorem f73_1(n:Nw)(cs:LP)(e:Int)(st:LI)(ho:OffOk n cs e st):FG 73 [nwV n,prs cs,I e,zA1 st] (.tup [.own 2 ((apL n cs e.toNat st).map prV),I 0]):=by
 have yX:=ho.ev;have j2:=yX.cr;have jk:=j2.w;have hn:=j2.nw;have jh:=j2.len;have he:=yX.ev;have kN:=hn.nl;have ga:=hn.sl.2;have vE:=zTL ga ho.rng ho.nd;have wB:=zCD (w:=zAM n cs e.toNat) hn;have js:∀ g∈zAI n (zAM n cs e.toNat),(0<=g.1/\g.1<n.h)/\(0<=g.2/\g.2<n.n.length):=zOs;have kK:=f121_1 n cs e st ho (by omega);have y4:=zW2 (n:=n) (cs:=cs) (e:=e.toNat) (st:=st) jk jh ho.rng;have gY:=fun i=>zZm (n:=n) (cs:=cs) (e:=e.toNat) (st:=st) (i:=i);have qw:=fun k=>zQN (n:=n) (cs:=cs) (e:=e.toNat) (st:=st) (k:=k);have hZ:=fun k=>zTn (n:=n) (cs:=cs) (e:=e.toNat) (st:=st) hn k;generalize apL n cs e.toNat st=R at *;generalize hG:zAI n (zAM n cs e.toNat)=G at *;refine zAe Tryz.f73 ?_;refine zAh 3<|zAl 4<|S_a [(12,.ret (tup [zE9 n cs,prs G,agg [zXx n cs e G],I 0]) [])] (ap kK an)<|S_g 10<|zAc<|zAh 2<|zAD<|zAf<|zAh 2<|zAc<|zAl 2<|S_a [(0,.n n.n.length)] (ap (lnS ntV n.n) an)<|S_g 1<|zAd 0 ?_
 refine zAo (fun(i,M)=>i<=n.n.length/\M=jnN n cs e.toNat G st i) (fun((i:Nat),(M:List Pp))=>[(14,.omap (M.map ppV)),(42,I (i:Nat))]) (fun(i,_)=>n.n.length-i) ((0:Nat),([]:List Pp)) ⟨bG _,rfl⟩ fun(i,M) ⟨hi,hM⟩=>?_;by_cases yB:i<n.n.length
 ·have yS:=zPR (n:=n) (cs:=cs) (e:=e.toNat) (G:=G) (st:=st) (k:=i);rw[<- hM] at yS;clear hM qw gY y4 hZ kK;refine zAh 1<|zAc<|zAs ((i:Int)<(n.n.length:Int)) (by omega)<|zAf<|zAc<|zAd 1<|zAh 2<|zAl 1<|S_a [(0,.n st.length)] (ap (lnS I st) an)<|S_g 1<|zAd 2 ?_
  refine zAo (fun(j,M')=>j<=st.length/\M'=jnR n cs e.toNat G i M (st.take j)) (fun((j:Nat),(M':List Pp))=>[(14,.omap (M'.map ppV)),(47,I (j:Nat))]) (fun(j,_)=>st.length-j) ((0:Nat),M) ⟨bG _,rfl⟩ fun(j,M') ⟨hj,hM'⟩=>?_;by_cases jN:j<st.length
  ·have yF:=zVd (n:=n) (cs:=cs) (e:=e.toNat) (G:=G) (M:=M) (i:=i) jN;have yV:=zBt (d:=(0:Int)) ho.rng j jN;rw[<- hM'] at yF;have kY:(0<=(((i:Int),st.getD j 0):Int×Int).1/\(((i:Int),st.getD j 0):Int×Int).1<n.n.length)/\(0<=(((i:Int),st.getD j 0):Int×Int).2/\(((i:Int),st.getD j 0):Int×Int).2<n.s.length):=by simp only;omega
   have hmc:=f173 n cs G e ((i:Int),st.getD j 0) jk jh (by omega) (by omega) js kY;have yO:(zD6 n (zAM n (cs++[((i:Int),st.getD j 0)]) e.toNat) G).length<=1000:=bN (bJ _ _) (by omega);generalize zD6 n (zAM n (cs++[((i:Int),st.getD j 0)]) e.toNat) G=C at *;clear hM' yS js;refine zAh 1<|zAc<|zAs ((j:Int)<(st.length:Int)) (by omega)<|zAf<|zAc<|zAd 3<|zAc<|zAb<|S_a [(2,.v (I (st.getD j 0)))] (ap (zBi (0) (by omega):(map I st)[j]? = some (I (st.getD j 0))) an)<|S_g 2<|zAl 5<|S_a [(9,.ret (prs C) [])] (ap hmc an)<|S_g 1<|zAl 1<|S_a [(0,.n C.length)] (ap (lnS prV C) an)<|S_g 1<|zAd 4 ?_
   refine zAo (fun(p,N)=>p<=C.length/\N=(C.take p).foldl (jn1 C) M') (fun((p:Nat),(N:List Pp))=>[(14,.omap (N.map ppV)),(59,I (p:Nat))]) (fun(p,_)=>C.length-p) ((0:Nat),M') ⟨bG _,rfl⟩ fun(p,N) ⟨hp,hN⟩=>?_;by_cases ud:p<C.length
   ·have j4:=zUL (c:=C) (M:=M') ud;rw[<- hN] at j4;clear hN yF;refine zAh 1<|zAc<|zAs ((p:Int)<(C.length:Int)) (by omega)<|zAf<|zAc<|zAd 5<|zAc<|zAb<|S_a [(2,.v (prV (C.getD p d0)))] (ap (zBi d0 (by omega):(map prV C)[p]? = some (prV (C.getD p d0))) an)<|S_g 3<|zAl 1<|S_a [(0,.n C.length)] (ap (lnS prV C) an)<|S_g 1<|zAd 6 ?_
    refine zAo (fun(q,O)=>q<=C.length/\O=(C.take q).foldl (fun M b=>zUA M (C.getD p d0,b)) N) (fun((q:Nat),(O:List Pp))=>[(14,.omap (O.map ppV)),(65,I (q:Nat))]) (fun(q,_)=>C.length-q) ((0:Nat),N) ⟨bG _,rfl⟩ fun(q,O) ⟨hq,hO⟩=>?_;by_cases kH:q<C.length
    ·have hn3:=zUO (c:=C) (M:=N) (a:=C.getD p d0) kH;rw[<- hO] at hn3;clear hO j4;by_cases hm:(C.getD p d0,C.getD q d0)∈O
     ·obtain⟨z,yM,_,yf⟩:=zZc hm;have uZ:zUA O (C.getD p d0,C.getD q d0)=O:=if_pos hm;rw[uZ] at hn3;refine zAh 1<|zAc<|zAs ((q:Int)<(C.length:Int)) (by omega)<|zAf<|zAc<|zAd 7<|zAc<|zAb<|S_a [(2,.v (prV (C.getD q d0)))] (ap (zBi d0 (by omega):(map prV C)[q]? = some (prV (C.getD q d0))) an)<|S_g 3<|zAb<|zAn 6<|S_a [(0,.v (bool !(decide ((C.getD p d0).fst=(C.getD q d0).fst)&&decide ((C.getD p d0).snd=(C.getD q d0).snd))))] (ap (zJG:zHJ Tryz.prog BinOp.neq 108 (prV (C.getD p d0)) (prV (C.getD q d0))=some (bool !(decide ((C.getD p d0).fst=(C.getD q d0).fst)&&decide ((C.getD p d0).snd=(C.getD q d0).snd)))) an)<|S_a [(5,.ix (some z)),(1,.root (omap (map ppV O)) true)] (ap yM<|ap (zWO (es:=map ppV O) yf) an)<|zAR<|zAb<|S_i q<|S_g 1 ?_
      exact rnd (q+1,O) ⟨by omega,hn3.symm⟩ (by simp only;omega)
     ·have yM:=zYE hm;have uZ:zUA O (C.getD p d0,C.getD q d0)=O++[(C.getD p d0,C.getD q d0)]:=if_neg hm;rw[uZ] at hn3;refine zAh 1<|zAc<|zAs ((q:Int)<(C.length:Int)) (by omega)<|zAf<|zAc<|zAd 7<|zAc<|zAb<|S_a [(2,.v (prV (C.getD q d0)))] (ap (zBi d0 (by omega):(map prV C)[q]? = some (prV (C.getD q d0))) an)<|S_g 3<|zAb<|zAn 6<|S_a [(0,.v (bool !(decide ((C.getD p d0).fst=(C.getD q d0).fst)&&decide ((C.getD p d0).snd=(C.getD q d0).snd))))] (ap (zJG:zHJ Tryz.prog BinOp.neq 108 (prV (C.getD p d0)) (prV (C.getD q d0))=some (bool !(decide ((C.getD p d0).fst=(C.getD q d0).fst)&&decide ((C.getD p d0).snd=(C.getD q d0).snd)))) an)<|S_a [(5,.ix none),(0,.v (omap (map ppV (O++[(C.getD p d0,C.getD q d0)]))))] (ap yM<|ap ((by simp):omap (map ppV O++[(agg [I (C.getD p d0).fst,I (C.getD p d0).snd,I (C.getD q d0).fst,I (C.getD q d0).snd],bool !(decide ((C.getD p d0).fst=(C.getD q d0).fst)&&decide ((C.getD p d0).snd=(C.getD q d0).snd)))])=omap (map ppV (O++[(C.getD p d0,C.getD q d0)]))) an)<|zAR<|zAb<|S_i q<|S_g 1 ?_
      exact rnd (q+1,O++[(C.getD p d0,C.getD q d0)]) ⟨by omega,hn3.symm⟩ (by simp only;omega)
    ·rw[bp (by omega)] at hO;have hO2:O=jn1 C N (C.getD p d0):=hO;rw[<- hO2] at j4;clear hO hO2;refine zAh 1<|zAc<|zAu ((q:Int)<(C.length:Int)) (by omega)<|zAq 6<|zAb<|S_i p<|S_g 1 ?_
     exact rnd (p+1,O) ⟨by omega,j4.symm⟩ (by simp only;omega)
   ·rw[bp (by omega)] at hN;have hN2:N=jn2 M' C:=hN;rw[<- hN2] at yF;clear hN hN2;refine zAh 1<|zAc<|zAu ((p:Int)<(C.length:Int)) (by omega)<|zAq 4<|zAb<|S_i j<|S_g 1 ?_
    exact rnd (j+1,N) ⟨by omega,yF.symm⟩ (by simp only;omega)
  ·rw[bp (by omega)] at hM';rw[<- hM'] at yS;clear hM' js;refine zAh 1<|zAc<|zAu ((j:Int)<(st.length:Int)) (by omega)<|zAq 2<|zAb<|S_i i<|S_g 1 ?_
   exact rnd (i+1,M') ⟨by omega,yS.symm⟩ (by simp only;omega)
 ·rw[show i=n.n.length by omega] at hM;rw[<- hM] at gY;refine zAh 1<|zAc<|zAu ((i:Int)<(n.n.length:Int)) (by omega)<|zAq 0<|zAh 1<|zAc<|zAl 2<|S_a [(0,.n n.n.length)] (ap (lnS ntV n.n) an)<|S_g 1<|zAd 8 ?_
  refine zAo (fun(i,q)=>i<=n.n.length/\q=apN n cs e.toNat st i) (fun((i:Nat),(q:LP))=>[(23,.own 2 (q.map prV)),(83,I (i:Nat))]) (fun(i,_)=>n.n.length-i) ((0:Nat),([]:LP)) ⟨bG _,by simp[apN]⟩ fun(i,q) ⟨hi,hq⟩=>?_;have kH:q.length<=i*80:=by rw[hq];exact(hZ i).1
  by_cases yB:i<n.n.length
  ·have yF:=qw i;have vQ:=gY i;rw[<- hq] at yF;have qO:(ofL n i G).length<=80:=bN (bJ _ _) wB;have hap:=f145 (ofL n i G) M qO;rw[vQ] at hap;have hapl:(aps (jnB n cs e.toNat G st) (ofL n i G)).length<=80:=bN (zF2 _ _) qO;clear qw gY vQ y4 hZ hq kK;generalize aps (jnB n cs e.toNat G st) (ofL n i G)=A at *;by_cases hb:(zAi n).getD i 0=i
   ·have jd:fwB n i=true:=decide_eq_true hb;rw[if_pos jd] at yF;refine zAh 1<|zAc<|zAs ((i:Int)<(n.n.length:Int)) (by omega)<|zAf<|zAc<|zAd 9<|zAh 2<|zAl 4<|S_a [(2,.ob),(0,.v ((I ((zAi n).getD i 0)).ref))] (ap ((by exact zAt (by omega)):decide (i<8)=true)<|ap (zD9 (F:=zAi n) (m:=8) (j:=i) (by omega):zBO (agg (zBa (zAi n) 8)).ref (i*(fun x=>x.size) Tryz.prog.types[3]) none=some (I ((zAi n).getD i 0)).ref) an)<|S_g 3<|zAs ((zAi n).getD i 0=(i:Int)) (by omega)<|zAb<|zAn 4<|S_a [(9,.ret (own 2 (map prV (ofL n (i:Int) G))) [])] (ap (f135 n cs G ((i:Int)) (by omega) (by omega) (by omega)) an)<|zAn 1<|S_a [(3,.ob),(0,.v (prs (ofL n (i:Int) G))),(3,.ret (own 2 (map prV A)) []),(1,.yes)] (ap (blz (map prV (ofL n (i:Int) G)))<|ap (frT prV (ofL n (i:Int) G))<|ap hap<|ap ((by exact zBf _):(own 2 (map prV A)).free=true) an)<|S_a [(0,.ob),(0,.ob),(2,.ob),(0,.ob),(0,.yes),(2,.v (own 2 (map prV (q++A))))] (ap ((by exact all_map _):((map prV A).all fun y=>y.cells.length.beq ((fun x=>x.size) Tryz.prog.types[108])&&y.cells.all fun q=>q.oneCell)=true)<|ap ((by exact dc.2 (zDU _)):(zBq (map prV A)).isEmpty=true)<|ap (blz (map prV q))<|ap ((by exact zAQ (by simp only[bf,zzLn,zAJ]<;>omega)):((map prV q).length+(map prV A).length).ble zAJ=true)<|ap ((by exact zA7 (by simp<;>omega)):(0+(map prV q).length).beq (map prV q).length=true)<|ap ((by simp):own 2 (map prV q++map prV A)=own 2 (map prV (q++A))) an)<|S_g 1<|zAb<|S_i i<|S_g 1 ?_
    exact rnd (i+1,q++A) ⟨by omega,yF.symm⟩ (by simp only;omega)
   ·have hbf:fwB n i=false:=decide_eq_false hb;rw[if_neg (by rw[hbf];simp)] at yF;refine zAh 1<|zAc<|zAs ((i:Int)<(n.n.length:Int)) (by omega)<|zAf<|zAc<|zAd 9<|zAh 2<|zAl 4<|S_a [(2,.ob),(0,.v ((I ((zAi n).getD i 0)).ref))] (ap ((by exact zAt (by omega)):decide (i<8)=true)<|ap (zD9 (F:=zAi n) (m:=8) (j:=i) (by omega):zBO (agg (zBa (zAi n) 8)).ref (i*(fun x=>x.size) Tryz.prog.types[3]) none=some (I ((zAi n).getD i 0)).ref) an)<|S_g 3<|zAu ((zAi n).getD i 0=(i:Int)) (by omega)<|zAf<|zAb<|S_i i<|S_g 1 ?_
    exact rnd (i+1,q) ⟨by omega,yF.symm⟩ (by simp only;omega)
  ·have e1:i=n.n.length:=by omega
   rw[e1] at hq;rw[<- hq] at y4;have hbq:=(hZ n.n.length).2;rw[<- hq] at hbq;have jB:=f146 q (by omega) hbq;rw[y4] at jB;clear qw gY y4 hZ hq kK hbq;refine zAh 1<|zAc<|zAu ((i:Int)<(n.n.length:Int)) (by omega)<|zAq 8<|zAl 1<|S_a [(4,.vs ([bor 50000000 [] 2 0 q.length,func 147 [] []])),(0,.ret (tup []) ([own 2 (map prV R)]))] (ap ((by simp) : [bor 50000000 [] 2 0 (map prV q).length,func 147 [] []]=[bor 50000000 [] 2 0 q.length,func 147 [] []])<|ap jB an)<|zAR<|zAl 1<|S_a [(2,.yes)] (ap ((by exact zA7 (by simp<;>omega)):(beq 0 0&&(map prV R).length.beq (map prV R).length)=true) an)<|S_g 1<|zAk<|E_z [(1,.yes),(1,.v (own 2 (map prV R)))] (ap (blz (map prV R))<|ap ((zAK zAL):own 2 (take (map prV R).length (drop 0 (map prV R)))=own 2 (map prV R)) an)
theorem f73_2(n:Nw)(cs:LP)(e:Int)(st:LI)(hs:Small n)(hl:cs.length<1000000)(yD:st.length<1000000)(ho:¬ zBr n cs e st=0):FG 73 [nwV n,prs cs,I e,zA1 st] (.tup [.own 2 [],I (zBr n cs e st)]):=by
 have hx : FG 121 [nwV n,prs cs,I e,zA1 st] (.tup [.nilp,.sl [],.agg [.nilf],I (zBr n cs e st)]):=by
  by_cases yX:zCf n cs e=0
  ·have qv:=zOk yX
   cases hin:(!st.all fun x=>inB x 0 (n.s.length-1)) with
   |true=>
    rw[show zBr n cs e st=1 by simp only[zBr,yX,hin,if_true]];exact f121_2 n cs e st qv yD hin
   |false=>
    by_cases yU:st.Nodup
    ·exact absurd (by simp only[zBr,yX,hin,yU,if_true];rfl) ho
    ·rw[show zBr n cs e st=5 by simp only[zBr,yX,hin,yU,if_true,if_false];rfl];exact f121_4 n cs e st qv yD hin yU
  ·rw[show zBr n cs e st=zCf n cs e by simp only[zBr,yX,if_false]];exact f121_3 n cs e st hs hl yX
 refine zAe Tryz.f73 ?_;refine zAh 3<|zAl 4<|S_a [(12,.ret (tup [PV.nilp,sl [],agg [PV.nilf],I (zBr n cs e st)]) [])] (ap hx an)<|S_g 10<|zAc<|zAh 2<|zCq (zBr n cs e st=0) (by omega)<|zAh 3<|zAk E_0
end Go.Eng
