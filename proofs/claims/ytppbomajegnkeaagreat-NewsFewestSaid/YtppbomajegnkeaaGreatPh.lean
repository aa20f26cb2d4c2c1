/- The statement NewsFewest jQ for all arguments: further cries that are returned leave none and are as few as can be, and the gaps that are apart, or the errors, are as specified; arguments are not modified. -/
import Derived.Test.YtppbomajegnkeaaGreatPg
import Derived.Test.YtppbomajegnkeaaGreatPd
set_option linter.unusedVariables false
set_option linter.unusedSimpArgs false
set_option linter.unusedSectionVars false
set_option maxRecDepth 10000
set_option maxHeartbeats 4000000
open Nat (beq ble blt)
open List (map replicate take drop range length filter)
open Go.Eng.PV (own agg addr func sl bor tup omap bad bool int)
namespace Go.Eng
open Go Go.Proofs
theorem zLO{n:Nw}{cs:LP}{c:Int×Int}(h:CrW n cs)(hl:cs.length<1000)(hc:(0<=c.1/\c.1<n.n.length)/\(0<=c.2/\c.2<n.s.length)):CrW n (cs++[c]) :=
 ⟨h.nw,by simp;omega,fun x hx=>by
  rcases bk.1 hx with h1|h1
  ·exact h.cs x h1
  ·rw[bw] at h1;subst h1;exact hc⟩
theorem f171(n:Nw)(cs:LP)(c:Int×Int)(hl:cs.length<=16):FG 171 [zE9 n cs,prV c] (.box (zBu n (.own 2 ((cs++[c]).map prV)) (mapM (n.l.map pr2)) (zAi n) (zAx n))):=by
 rcases cs with _|⟨x0,_|⟨x1,_|⟨x2,_|⟨x3,_|⟨x4,_|⟨x5,_|⟨x6,_|⟨x7,_|⟨x8,_|⟨x9,_|⟨x10,_|⟨x11,_|⟨x12,_|⟨x13,_|⟨x14,_|⟨x15,_|⟨x16,cs⟩⟩⟩⟩⟩⟩⟩⟩⟩⟩⟩⟩⟩⟩⟩⟩⟩
 case cons.cons.cons.cons.cons.cons.cons.cons.cons.cons.cons.cons.cons.cons.cons.cons.cons=>simp only[bE] at hl;omega
 all_goals
  refine zAe Tryz.f171 ?_;exact zAc (zAb (zAn 2 (zAR (zAc (zAb (zAn 5 (zAR (zAc (zAb (zAn 4 (zAn 1 (zAn 4 (zAn 1 (zAn 1 (zAn 3 (zAR (zAc (zAb (zAn 1 (zAn 1 (zAn 4 (zAn 1 (zAR (zAc (zAb (zAn 1 (zAn 1 (zAn 5 (zAR (zAc (zAb (zAn 1 (zAR (zAk (E_0)))))))))))))))))))))))))))))))))))
def zV1(n:Nw)(w:LI)(g:Int×Int):Bool:=decide (w.getD (g.1.toNat*8+((zAi n).getD g.2.toNat 0).toNat) 0≠g.2)
def zD6(n:Nw)(w:LI)(l:LP):LP:=l.filter (zV1 n w)
theorem zVx{n:Nw}{w:LI}{l:LP}{i:Nat}(hi:i<l.length):zD6 n w (l.take (i+1))=if zV1 n w (l.getD i d0)=true then zD6 n w (l.take i)++[l.getD i d0] else zD6 n w (l.take i):=by
 unfold zD6;rw[zBs (d:=d0) hi,cR];split
 ·rw[cG (by assumption)];rfl
 ·rw[b4 (by assumption)];simp
theorem f119(n:Nw)(cs l:LP)(e:Int)(c:Int×Int)(ho:CrW n cs)(hl:cs.length<=16)(he:0<=e/\e<=1000)(ug:l.length<=1000)(hm:∀ g∈l,(0<=g.1/\g.1<n.h)/\(0<=g.2/\g.2<n.n.length))(hc:(0<=c.1/\c.1<n.n.length)/\(0<=c.2/\c.2<n.s.length)):FG 119 [zE9 n cs,prs l,I e,prV c] (.own 2 ((zD6 n (zAM n (cs++[c]) e.toNat) l).map prV)):=by
 have hw:=zLO ho (by omega) hc;have hb:=ho.nw.h;have hn:=ho.nw;have kN:=hn.nl;have hwl:=zBQ (n:=n) (cs:=cs++[c]) e.toNat;have ha:=f92 n (cs++[c]) e hw he;generalize zAM n (cs++[c]) e.toNat=w at *;refine zAe Tryz.f119 ?_;refine zAh 2<|zAl 2<|S_a [(7,.ret ((zBu n (own 2 (map prV (cs++[c]))) (mapM (map pr2 n.l)) (zAi n) (zAx n)).box) [])] (ap (f171 n cs c (by omega)) an)<|zAn 1<|S_a [(7,.v (agg (I n.h::prs n.l::sl (map ntV n.n)::sl (map zA1 n.s)::prs (cs++[c])::PV.map (map zFg (map pr2 n.l))::(zBa (zAi n) 8++zBa (zAx n) 8)))),(4,.ret (hdV w) [])] (ap ((by simp only[show zAv (map prV (cs++[c]))=map prV (cs++[c]) from(by first|exact zAz _|exact zAE _|exact zAB _|exact zA3 (zAE _)|exact zA3 (zAB _)|exact zCH (by simp[zBN]) (zAz _))]):agg (I n.h::prs n.l::sl (map ntV n.n)::sl (map zA1 n.s)::sl (zAv (map prV (cs++[c])))::PV.map (map zFg (map pr2 n.l))::(zBa (zAi n) 8++zBa (zAx n) 8))=agg (I n.h::prs n.l::sl (map ntV n.n)::sl (map zA1 n.s)::prs (cs++[c])::PV.map (map zFg (map pr2 n.l))::(zBa (zAi n) 8++zBa (zAx n) 8)))<|ap ha an)<|S_g 2<|zAh 1<|zAc<|zAl 1<|S_a [(0,.n l.length)] (ap (lnS prV l) an)<|S_g 1<|zAd 0 ?_
 refine zAo (fun(i,q)=>i<=l.length/\q=zD6 n w (l.take i)) (fun(i,q)=>[(10,.own 2 (q.map prV)),(20,I (i:Nat))]) (fun(i,_)=>l.length-i) ((0:Nat),([]:LP)) ⟨by omega,by simp[zD6]⟩ fun(i,q) ⟨hi,hq⟩=>?_;have kH:q.length<=i:=by
  rw[hq,zD6];exact bN (bJ _ _) (by rw[bZ];omega)
 by_cases yB:i<l.length
 ·have yF:=zVx (n:=n) (w:=w) yB;rw[<- hq] at yF;obtain⟨kA,wF⟩:=zBt (d:=d0) hm i yB;have v7:=zBL hn (l.getD i d0).2.toNat (by omega);clear hm ha hq;refine zAh 1<|zAc<|zAs ((i:Int)<(l.length:Int)) (by omega)<|zAf<|zAc<|zAd 1<|zAc<|zAb<|S_a [(2,.v (prV (l.getD i d0)))] (ap (zBi d0 (by omega):(map prV l)[i]? = some (prV (l.getD i d0))) an)<|S_g 3<|zAl 7<|S_a [(0,.ob),(1,.ob),(0,.v ((I ((zAi n).getD (l.getD i d0).snd.toNat 0)).ref))] (ap ((by exact zAt (by omega)):decide (0<=(l.getD i d0).snd)=true)<|ap ((by exact zAt (by omega)):decide ((l.getD i d0).snd.toNat<8)=true)<|ap (zD9 (F:=zAi n) (m:=8) (j:=(l.getD i d0).snd.toNat) (by omega):zBO (agg (zBa (zAi n) 8)).ref ((l.getD i d0).snd.toNat*(fun x=>x.size) Tryz.prog.types[3]) none=some (I ((zAi n).getD (l.getD i d0).snd.toNat 0)).ref) an)<|zAn 1<|S_a [(0,.ob),(1,.ob)] (ap ((by exact zAt (by omega)):decide (0<=(l.getD i d0).fst)=true)<|ap ((by exact zAt (by omega)):decide ((l.getD i d0).fst.toNat<10)=true) an)<|S_a [(0,.ob),(1,.ob)] (ap ((by exact zAt (by omega)):decide (0<=(zAi n).getD (l.getD i d0).snd.toNat 0)=true)<|ap ((by exact zAt (by omega)):decide (((zAi n).getD (l.getD i d0).snd.toNat 0).toNat<8)=true) an)<|S_a [(0,.cs true ([I (w.getD ((l.getD i d0).fst.toNat*8+((zAi n).getD (l.getD i d0).snd.toNat 0).toNat) 0)]))] (ap (zDe (q:=(agg (zBa w 80)).box) (xs:=[agg (zBa w 80)]) (x:=agg (zBa w 80)) rfl rfl (zFG (F:=w) (m:=80) (j:=(l.getD i d0).fst.toNat*8+((zAi n).getD (l.getD i d0).snd.toNat 0).toNat) (by first|rfl|exact zB8 (by kernel_rfl)|exact zCd (by kernel_rfl)|exact zD0 (by kernel_rfl) (by kernel_rfl)|exact zD2 (by kernel_rfl)|exact zEd (by kernel_rfl) (by kernel_rfl)|exact zDW (by kernel_rfl)|(simp;done)) (by omega)):zAy 9 (agg (zBa w 80)).box [] 0 (0+(l.getD i d0).fst.toNat*(fun x=>x.size) Tryz.prog.types[128]+((zAi n).getD (l.getD i d0).snd.toNat 0).toNat*(fun x=>x.size) Tryz.prog.types[3]) 1=some (true,[I (w.getD ((l.getD i d0).fst.toNat*8+((zAi n).getD (l.getD i d0).snd.toNat 0).toNat) 0)])) an)<|S_g 3<|zDk (w.getD ((l.getD i d0).fst.toNat*8+((zAi n).getD (l.getD i d0).snd.toNat 0).toNat) 0=(l.getD i d0).snd) (fun k0=>(zAb<|zAn 3<|S_a [(4,.ob),(0,.ob),(0,.yes),(2,.v (own 2 (map prV (q++[l.getD i d0]))))] (ap (blz (map prV q))<|ap ((by exact zAQ (by simp only[bf,zzLn,zAJ]<;>omega)):((map prV q).length + [prV (l.getD i d0)].length).ble zAJ=true)<|ap ((by exact zA7 (by simp<;>omega)):(0+(map prV q).length).beq (map prV q).length=true)<|ap ((zAK (zBH (by kernel_rfl))):own 2 (map prV q++[prV (l.getD i d0)])=own 2 (map prV (q++[l.getD i d0]))) an)<|S_g 1<|zAb<|S_i i<|S_g 1 ?_)) (fun k0=>(zAf<|zAb<|S_i i<|S_g 1 ?_))
  ·have hb:zV1 n w (l.getD i d0)=true:=by simp only[zV1,decide_eq_true_eq];exact k0
   rw[if_pos hb] at yF;exact rnd (i+1,q++[l.getD i d0]) ⟨by omega,yF.symm⟩ (by simp only;omega)
  ·have hb:zV1 n w (l.getD i d0)=false:=by simp only[zV1,decide_eq_false_iff_not];exact fun h=>h k0
   rw[if_neg (by rw[hb];simp)] at yF;exact rnd (i+1,q) ⟨by omega,yF.symm⟩ (by simp only;omega)
 ·refine zAh 1<|zAc<|zAu ((i:Int)<(l.length:Int)) (by omega)<|zAq 0<|zAl 1<|S_a [(2,.yes)] (ap ((by exact zA7 (by simp<;>omega)):(beq 0 0&&(map prV q).length.beq (map prV q).length)=true) an)<|zAR<|zAk<|E_a [(1,.yes),(1,.v (own 2 (map prV q)))] (ap (blz (map prV q))<|ap ((zAK zAL):own 2 (take (map prV q).length (drop 0 (map prV q)))=own 2 (map prV q)) an) (own 2 (map prV q)) [] ?_ rfl
  rw[bp (by omega)] at hq;rw[hq]
end Go.Eng
set_option maxRecDepth 10000
set_option maxHeartbeats 4000000
namespace Go.Eng
open Go Go.Proofs
theorem zQK{α:Type}(φ:α->Bool)(l:List α):(zEi φ l = -1->l.filter (fun x=>!φ x)=l)/\(zEi φ l≠-1->∃ i:Nat,zEi φ l=i/\i<l.length/\l.take i=(l.take (i+1)).filter (fun x=>!φ x)):=by
 constructor
 ·intro h;have:l.any φ=false:=by rw[<- zDI,h];rfl
  rw[fI];intro x hx;rw[cD] at this;simpa using this x hx
 ·intro h;unfold zEi at h ⊢;split
  ·rename_i yI;refine⟨_,rfl,yI,?_⟩;have hp:=fb (w:=yI);rw[fk,bm yI,cR];simp only[Option.toList,dA,hp,dH,bq,if_false,iM,dO];symm;rw[fI];intro x hx;obtain⟨j,hj,rfl⟩:=fK.1 hx;have:=List.not_of_lt_findIdx (show j<l.findIdx φ by omega);simpa using this
  ·rename_i hn;rw[if_neg hn] at h;exact absurd rfl h
theorem zHD{α:Type}{S:List α}{p:Nat}{x:α}(h:p<S.length):(S.set p x).take (p+1)=S.take p++[x]:=by
 rw[zBs (d:=x) (by simpa using h),List.take_set_of_le (bi p)];simp[cE,h]
theorem zKs{α:Type}{S:List α}{i j:Nat}{x d:α}(h:i≠j):(S.set i x).getD j d=S.getD j d:=by
 simp[cE,d9,h]
theorem zFM{α:Type}(p:α->Bool)(l:List α)(j:Nat)(d:α)(h:j<l.length):(l.take (j+1)).filter p=if p (l.getD j d)=true then(l.take j).filter p++[l.getD j d] else(l.take j).filter p:=by
 rw[zBs (d:=d) h,cR];split
 ·rw[cG (by assumption)];rfl
 ·rw[b4 (by assumption)];simp
theorem f189(n:Nw)(cs:LP)(f:Int)(ho:NwOk n)(g:Int×Int)(hg:0<=g.2/\g.2<n.n.length):FG 189 [prV g,.ref (zE9 n cs),.ref (I f)] (.bool (decide ((zAi n).getD g.2.toNat 0≠f))):=by
 have kN:=ho.nl;refine zAe Tryz.f189 ?_;refine zAh 2<|zAl 5<|S_a [(0,.ob),(1,.ob),(0,.v ((I ((zAi n).getD g.snd.toNat 0)).ref))] (ap ((by exact zAt (by omega)):decide (0<=g.snd)=true)<|ap ((by exact zAt (by omega)):decide (g.snd.toNat<8)=true)<|ap (zD9 (F:=zAi n) (m:=8) (j:=g.snd.toNat) (by omega):zBO (agg (zBa (zAi n) 8)).ref (g.snd.toNat*(fun x=>x.size) Tryz.prog.types[3]) none=some (I ((zAi n).getD g.snd.toNat 0)).ref) an)<|S_g 4<|zAk<|E_a [] an (bool ((zAi n).getD g.snd.toNat 0 != f)) [] ?_ rfl
 congr 1;rw[cA];simp
theorem f174_1(n:Nw)(cs:LP)(f:Int)(ho:NwOk n)(l:LP)(hl:l.length<4294967296)(hr:∀ x∈l,(fun z:Int×Int=>0<=z.2/\z.2<n.n.length) x):FG 174 [.sl (l.map prV),.func 189 [] [.ref (zE9 n cs),.ref (I f)]] (I (zEi (fun x=>decide ((zAi n).getD x.2.toNat 0≠f)) l)):=by
 refine zAe Tryz.f174 ?_;refine zAh 1<|zAc<|zAl 1<|S_a [(0,.n l.length)] (ap (lnS prV l) an)<|S_g 1<|zAd 0 ?_
 refine zAo (fun i=>i<=l.length/\∀ j,j<i->(fun x=>decide ((zAi n).getD x.2.toNat 0≠f)) (l.getD j d0)=false) (fun i=>[(8,I (i:Nat))]) (fun i=>l.length-i) (0:Nat) (by simp) fun i ⟨hi,ha⟩=>?_;by_cases yB:i<l.length
 ·have qr:=zBt (d:=d0) hr i yB;refine zAh 1<|zAc<|zAs ((i:Int)<(l.length:Int)) (by omega)<|zAf<|zAc<|zAd 1<|zAh 2<|zAl 3<|S_a [(2,.v (prV (l.getD i d0)))] (ap (zBi d0 (by omega):(map prV l)[i]? = some (prV (l.getD i d0))) an)<|zAn 1<|S_a [(8,.ret (bool (decide ((zAi n).getD (l.getD i d0).snd.toNat 0≠f))) [])] (ap (f189 n cs f (by omega) (l.getD i d0) (by omega)) an)<|zAR<|zB2 ((zAi n).getD (l.getD i d0).snd.toNat 0≠f) (fun k0=>(zAh 2<|zAk<|E_a [] an (I (i:Int)) [] ?_ rfl)) (fun k0=>(zAf<|zAb<|S_i i<|S_g 1 ?_))
  ·rw[zBK (i:=i) yB (fun j hj=>by rw[<- zAp (d:=d0)];exact ha j hj) (by rw[<- zAp (d:=d0)];first|assumption|exact decide_eq_true ‹_›)]
  ·refine⟨i+1,⟨by omega,fun j hj=>?_⟩,by omega,by kernel_rfl,by kernel_rfl⟩;rcases bC.1 hj with h|rfl
   ·exact ha j h
   ·first|assumption|exact decide_eq_false ‹_›|(simp only[bI,decide_eq_true_eq];assumption)
 ·refine zAh 1<|zAc<|zAu ((i:Int)<(l.length:Int)) (by omega)<|zAq 0<|zAh 1<|zAk<|E_a [] an (I (-1)) [] ?_ rfl
  rw[zB6 fun j hj=>by rw[<- zAp (d:=d0)];exact ha j (by omega)]
theorem f122_1(n:Nw)(cs:LP)(f:Int)(ho:NwOk n)(l:LP)(hl:l.length<4294967296)(hr:∀ x∈l,(fun z:Int×Int=>0<=z.2/\z.2<n.n.length) x):FG 122 [.own 2 (l.map prV),.func 189 [] [.ref (zE9 n cs),.ref (I f)]] (.own 2 ((l.filter fun x=>!(decide ((zAi n).getD x.2.toNat 0≠f))).map prV)):=by
 have h1:=zQK (fun x=>decide ((zAi n).getD x.2.toNat 0≠f)) l;have jK:=f174_1 n cs f ho l hl hr;by_cases hm:zEi (fun x=>decide ((zAi n).getD x.2.toNat 0≠f)) l = -1
 ·rw[hm] at jK;rw[h1.1 hm];refine zAe Tryz.f122 ?_;refine zAh 1<|zAl 2<|S_a [(3,.ob),(0,.v (prs l)),(3,.ret (I (-1)) [])] (ap (blz (map prV l))<|ap (frT prV l)<|ap jK an)<|S_g 1<|zAc<|zAh 2<|zBD<|zAl 1<|S_a [(2,.yes)] (ap ((by exact zA7 (by simp<;>omega)):(beq 0 0&&(map prV l).length.beq (map prV l).length)=true) an)<|zAR<|zAk<|E_z [(1,.yes),(1,.v (own 2 (map prV l)))] (ap (blz (map prV l))<|ap ((zAK zAL):own 2 (take (map prV l).length (drop 0 (map prV l)))=own 2 (map prV l)) an)
 ·obtain⟨i0,jn,hil0,LH⟩:=h1.2 hm;rw[jn] at jK;clear h1 hm;refine zAe Tryz.f122 ?_;refine zAh 1<|zAl 2<|S_a [(3,.ob),(0,.v (prs l)),(3,.ret (I (i0:Int)) [])] (ap (blz (map prV l))<|ap (frT prV l)<|ap jK an)<|S_g 1<|zAc<|zAh 2<|zAD<|zAf<|zAc<|zAl 1<|S_i i0<|S_g 1<|zAd 0 ?_
  refine zAo (fun(i,j,S)=>j<=l.length/\i<j/\S.length=l.length/\S.take i=(l.take j).filter (fun x=>!(decide ((zAi n).getD x.2.toNat 0≠f)))/\∀ r,j<=r->S.getD r d0=l.getD r d0) (fun(i,j,S)=>[(0,.own 2 (S.map prV)),(5,I (i:Nat)),(6,I (j:Nat))]) (fun(_,j,_)=>l.length-j) (i0,i0+1,l) ⟨by omega,by omega,rfl,LH,fun _ _=>rfl⟩ fun(i,j,S) ⟨hj,qt,hS,ht,hd⟩=>?_;by_cases jN:j<l.length
  ·have qr:=zBt (d:=d0) hr j jN;have hx:=hd j (bi j);have yD:=zFM (fun x=>!(decide ((zAi n).getD x.2.toNat 0≠f))) l j d0 jN;rw[<- hx] at yD qr;clear jK;have qL:=hd;clear hd hx;refine zAc<|zAl 2<|S_a [(0,.n S.length)] (ap (lnS prV S) an)<|S_g 1<|zAs ((j:Int)<(S.length:Int)) (by omega)<|zAf<|zAc<|zAd 1<|zAl 2<|S_a [(2,.ob),(1,.n j)] (ap ((by exact zAt (by simp only[bf,zzLn]<;>omega)):decide (j<(map prV S).length)=true)<|ap ((by simp):some (0+j)=some j) an)<|S_a [(0,.cs true ([I (S.getD j d0).fst,I (S.getD j d0).snd]))] (ap (zDe (q:=own 2 (map prV S)) (xs:=map prV S) (x:=prV (S.getD j d0)) rfl (zBi d0 (by omega)):zAy 0 (own 2 (map prV S)) [] j 0 Tryz.prog.types[108].size=some (true,[I (S.getD j d0).fst,I (S.getD j d0).snd])) an)<|S_g 2<|zAl 2<|S_a [(8,.ret (bool (decide ((zAi n).getD (S.getD j d0).snd.toNat 0≠f))) [])] (ap (f189 n cs f (by omega) (S.getD j d0) (by omega)) an)<|S_g 1<|zDk ((zAi n).getD (S.getD j d0).snd.toNat 0≠f) (fun k0=>(zAl 3<|S_a [(2,.ob),(1,.n i)] (ap ((by exact zAt (by simp only[bf,zzLn]<;>omega)):decide (i<(map prV S).length)=true)<|ap ((by simp):some (0+i)=some i) an)<|S_a [(8,.root (own 2 (map prV (S.set i (S.getD j d0)))) true)] (ap (zOD (zBi d0 (by omega)) zFo:zBG (own 2 (map prV S)) [] i 0 (prV (S.getD j d0)).cells=some (own 2 (map prV (S.set i (S.getD j d0))))/\zAP (own 2 (map prV S)) (own 2 (map prV (S.set i (S.getD j d0)))) []=true) an)<|zAR<|zAb<|zAn 1<|S_i i<|S_g 1<|zAb<|zAn 1<|S_i j<|S_g 1 ?_)) (fun k0=>(zAf<|zAb<|zAn 1<|S_i j<|S_g 1 ?_))
   ·have hb:((fun x=>!(decide ((zAi n).getD x.2.toNat 0≠f))) (S.getD j d0))=true:=by first|assumption|(simp only[bF,decide_eq_false_iff_not];assumption)
    rw[if_pos hb] at yD;refine⟨(i+1,j+1,S.set i (S.getD j d0)),⟨by omega,by omega,by simpa using hS,?_,fun r qR=>?_⟩,by simp only;omega,by kernel_rfl,by kernel_rfl⟩
    ·rw[yD,<- ht,zHD (by omega)]
    ·rw[zKs (by omega)];exact qL r (by omega)
   ·have hb:((fun x=>!(decide ((zAi n).getD x.2.toNat 0≠f))) (S.getD j d0))=false:=by first|assumption|(simp only[bI,decide_eq_true_eq];assumption)
    rw[if_neg (fun h=>Bool.noConfusion (hb.symm.trans h))] at yD;exact rnd (i,j+1,S) ⟨by omega,by omega,hS,by rw[yD,ht],fun r qR=>qL r (by omega)⟩ (by simp only;omega)
  ·refine zAc<|zAl 2<|S_a [(0,.n S.length)] (ap (lnS prV S) an)<|S_g 1<|zAu ((j:Int)<(S.length:Int)) (by omega)<|zAq 0<|zAl 2<|S_a [(3,.ob),(0,.yes),(0,.yes),(0,.v (bor 0 [] 2 i (S.length-i)))] (ap ((by exact zAQ (by simp only[bf,zzLn,zAJ]<;>omega)):i.ble (map prV S).length=true)<|ap ((by exact zAQ (by simp only[bf,zzLn,zAJ]<;>omega)):(map prV S).length.ble (map prV S).length=true)<|ap ((by simp<;>omega):(i.beq 0||i.blt (map prV S).length)=true)<|ap ((by simp):bor 0 [] 2 (0+i) ((map prV S).length-i)=bor 0 [] 2 i (S.length-i)) an)<|zOh (g:=prV) (fun q=>q) 0 2 i (S.length-i) S ((0,0)) (by first|omega|(simp<;>omega)) ⟨rfl,rfl⟩ (fun _=>(by first|exact zFK|exact⟨rfl,rfl,rfl,rfl,bi _,rfl⟩)) zOd.nil (zAR<|zAl 2<|S_a [(4,.yes)] (ap ((by exact zAQ (by simp<;>omega)):i.ble (map prV (take i S++replicate (S.length-i) (0,0)++drop (i+(S.length-i)) S)).length=true) an)<|S_g 1<|zAk<|E_a [(1,.yes),(1,.v (own 2 (map prV (take i (take i S++replicate (S.length-i) (0,0)++drop (i+(S.length-i)) S)))))] (ap ((by exact zAQ (by simp<;>omega)):(0+((i:Int).toNat-0)).ble (map prV (take i S++replicate (S.length-i) (0,0)++drop (i+(S.length-i)) S)).length=true)<|ap ((by simp):own 2 (take i (drop 0 (map prV (take i S++replicate (S.length-i) (0,0)++drop (i+(S.length-i)) S))))=own 2 (map prV (take i (take i S++replicate (S.length-i) (0,0)++drop (i+(S.length-i)) S)))) an) (own 2 (map prV (take i (take i S++replicate (S.length-i) (0,0)++drop (i+(S.length-i)) S)))) [] ?_ rfl)
   rw[bp (fx jN)] at ht;rw[<- ht,cK,dz (by rw[bZ];omega),im,iY]
def ofL(n:Nw)(f:Int)(l:LP):LP:=l.filter fun x=>!decide ((zAi n).getD x.2.toNat 0≠f)
theorem f135(n:Nw)(cs l:LP)(f:Int)(ho:NwOk n)(hl:l.length<=1000)(hr:∀ g∈l,(0<=g.1/\g.1<n.h)/\(0<=g.2/\g.2<n.n.length)):FG 135 [zE9 n cs,prs l,I f] (.own 2 ((ofL n f l).map prV)):=by
 have h1:=f122_1 n cs f ho l (by omega) fun x hx=>(hr x hx).2;refine zAe Tryz.f135 ?_;refine zAh 3<|zAl 1<|S_a [(6,.ret (own 2 (map prV l)) [])] (ap (f123 l (by omega)) an)<|zAn 1<|S_a [(3,.ob),(1,.v (own 2 (map prV l))),(14,.ret (own 2 (map prV (filter (fun x=>!decide ((zAi n).getD x.snd.toNat 0≠f)) l))) []),(1,.yes)] (ap ((by exact zAQ (by simp only[bf,zzLn,zAJ]<;>omega)):(map prV l).length.ble (map prV l).length=true)<|ap ((zAK zAL):own 2 (take (map prV l).length (drop 0 (map prV l)))=own 2 (map prV l))<|ap h1<|ap ((by exact zBf _):(own 2 (map prV (filter (fun x=>!decide ((zAi n).getD x.snd.toNat 0≠f)) l))).free=true) an)<|S_g 1<|zAk<|E_z [(1,.yes),(1,.v (own 2 (map prV (filter (fun x=>!decide ((zAi n).getD x.snd.toNat 0≠f)) l))))] (ap (blz (map prV (filter (fun x=>!decide ((zAi n).getD x.snd.toNat 0≠f)) l)))<|ap ((zAK zAL):own 2 (take (map prV (filter (fun x=>!decide ((zAi n).getD x.snd.toNat 0≠f)) l)).length (drop 0 (map prV (filter (fun x=>!decide ((zAi n).getD x.snd.toNat 0≠f)) l))))=own 2 (map prV (filter (fun x=>!decide ((zAi n).getD x.snd.toNat 0≠f)) l))) an)
end Go.Eng
set_option maxRecDepth 10000
set_option maxHeartbeats 4000000
namespace Go.Eng
open Go Go.Proofs
def zBr(n:Nw)(cs:LP)(e:Int)(st:LI):Int:=if zCf n cs e=0 then if (!st.all fun x=>inB x 0 (n.s.length-1))=true then 1 else if st.Nodup then 0 else 5 else zCf n cs e
structure OffOk (n:Nw) (cs:LP) (e:Int) (st:LI):Prop where
 err:zBr n cs e st=0
 ev:EvOk n cs e
 rng:∀ s∈st,0<=s/\s<n.s.length
 nd:st.Nodup
abbrev zXx(n:Nw)(cs:LP)(e:Int)(l:LP):PV := .func 173 [] [.ref (zE9 n cs),.ref (prs l),.ref (I e)]
theorem f168_2(n:Nw)(hb:n.s.length<=6)(x:Int):FG 168 [I x,.ref (.func 170 [nwV n] [])] (.bool (!(inB x 0 (n.s.length-1)))):=by
 refine zAe Tryz.f168 ?_;refine zAh 1<|zAl 2<|S_a [(8,.ret (bool (inB x 0 ((n.s.length:Int)-1))) [])] (ap (f170 n x (by omega)) an)<|S_g 2<|zAk E_0
theorem f131_2(n:Nw)(hb:n.s.length<=6)(l:List (Int))(hl:l.length<4294967296):FG 131 [.sl (l.map I),.func 168 [] [.ref (.func 170 [nwV n] [])]] (I (zEi (fun x=>!(inB x 0 (n.s.length-1))) l)):=by
 refine zAe Tryz.f131 ?_;refine zAh 1<|zAc<|zAl 1<|S_a [(0,.n l.length)] (ap (lnS I l) an)<|S_g 1<|zAd 0 ?_
 refine zAo (fun i=>i<=l.length/\∀ j,j<i->(fun x=>!(inB x 0 (n.s.length-1))) (l.getD j 0)=false) (fun i=>[(8,I (i:Nat))]) (fun i=>l.length-i) (0:Nat) (by simp) fun i ⟨hi,ha⟩=>?_;refine zAh 1<|zAc<|zB2 ((i:Int)<(l.length:Int)) (fun k0=>(zAf<|zAc<|zAd 1<|zAh 2<|zAl 3<|S_a [(2,.v (I (l.getD i 0)))] (ap (zBi (0) (by omega):(map I l)[i]? = some (I (l.getD i 0))) an)<|zAn 1<|S_a [(7,.ret (bool !inB (l.getD i 0) 0 ((n.s.length:Int)-1)) [])] (ap (f168_2 n (by omega) (l.getD i 0)) an)<|zAR<|zDw (!inB (l.getD i 0) 0 ((n.s.length:Int)-1)) (fun k1=>(zAh 2<|zAk<|E_a [] an (I (i:Int)) [] ?_ rfl)) (fun k1=>(zAf<|zAb<|S_i i<|S_g 1 ?_)))) (fun k0=>(zAq 0<|zAh 1<|zAk<|E_a [] an (I (-1)) [] ?_ rfl))
 ·rw[zBK (i:=i) (by omega) (fun j hj=>by rw[<- zAp (d:=0)];exact ha j hj) (by rw[<- zAp (d:=0)];first|assumption|exact decide_eq_true ‹_›|(simp only[bF,decide_eq_false_iff_not];assumption))]
 ·refine⟨i+1,⟨by omega,fun j hj=>?_⟩,by omega,by kernel_rfl,by kernel_rfl⟩;rcases bC.1 hj with h|rfl
  ·exact ha j h
  ·first|assumption|exact decide_eq_false ‹_›|(simp only[bI,decide_eq_true_eq];first|assumption|(apply db;assumption))
 ·rw[zB6 fun j hj=>by rw[<- zAp (d:=0)];exact ha j (by omega)]
theorem f52_2(n:Nw)(hb:n.s.length<=6)(l:List (Int))(hl:l.length<4294967296):FG 52 [.sl (l.map I),.func 168 [] [.ref (.func 170 [nwV n] [])]] (.bool (l.any (fun x=>!(inB x 0 (n.s.length-1))))):=by
 refine zAe Tryz.f52 ?_;refine zAh 1<|zAl 2<|S_a [(7,.ret (I (zEi (fun x=>!inB x 0 ((n.s.length:Int)-1)) l)) [])] (ap (f131_2 n (by omega) l (by omega)) an)<|S_g 2<|zAk<|E_a [] an (bool (decide (zEi (fun x=>!inB x 0 ((n.s.length:Int)-1)) l>=0))) [] ?_ rfl
 rw[zDI]
theorem f108_2(n:Nw)(hb:n.s.length<=6)(l:List (Int))(hl:l.length<4294967296):FG 108 [.sl (l.map I),.func 170 [nwV n] []] (.bool (l.all (fun x=>inB x 0 (n.s.length-1)))):=by
 refine zAe Tryz.f108 ?_;refine zAh 2<|zAl 2<|S_a [(12,.ret (bool (l.any fun x=>!inB x 0 ((n.s.length:Int)-1))) [])] (ap (f52_2 n (by omega) l (by omega)) an)<|S_g 2<|zAk<|E_a [] an (bool !l.any fun x=>!inB x 0 ((n.s.length:Int)-1)) [] ?_ rfl
 simp[cX]
theorem f121_1(n:Nw)(cs:LP)(e:Int)(st:LI)(ho:OffOk n cs e st)(yD:st.length<1000000):FG 121 [nwV n,prs cs,I e,zA1 st] (.tup [zE9 n cs,prs (zAI n (zAM n cs e.toNat)),.agg [zXx n cs e (zAI n (zAM n cs e.toNat))],I 0]):=by
 have yX:=ho.ev;have j2:=yX.cr;have jk:=j2.w;have hn:=j2.nw;have he:=yX.ev;have ga:=hn.sl.2;have hwl:=zBQ (n:=n) (cs:=cs) e.toNat;have wB:=zCD (w:=zAM n cs e.toNat) hn;have hin:(!st.all fun x=>inB x 0 (n.s.length-1))=false:=by
  simp only[bI,bj];intro s hs;have:=ho.rng s hs
  simp only[inB,bb,decide_eq_true_eq];omega
 refine zAe Tryz.f121 ?_;refine zAh 6<|zAl 3<|S_a [(10,.ret (tup [zE9 n cs,I 0]) [])] (ap (f90_1 n cs e (by omega)) an)<|S_g 6<|zAc<|zAd 0<|zAh 3<|zAD<|zAl 3<|S_a [(7,.ret (bool (st.all fun x=>inB x 0 ((n.s.length:Int)-1))) [])] (ap (f108_2 n (by omega) st (by omega)) an)<|S_g 2<|zDw (!st.all fun x=>inB x 0 ((n.s.length:Int)-1)) (fun k0=>(zAh 5<|zAk<|E_a [] an (tup [PV.nilp,sl [],agg [PV.nilf],I 1]) [] ?_ rfl)) (fun k0=>(zAf<|zAc<|zAl 1<|S_a [(0,.n st.length)] (ap (lnS I st) an)<|S_g 1<|zAd 1 ?_))
 ·rw[hin] at k0;cases k0
 ·refine zAo (fun i=>i<=st.length) (fun(i:Nat)=>[(38,I (i:Nat))]) (fun i=>st.length-i) (0:Nat) (by omega) fun i hi=>?_;by_cases yB:i<st.length
  ·have jT:has (st.take i) (st.getD i 0)=false:=by
    rw[zKL,decide_eq_false_iff_not];intro hm;have yU:=ho.nd;rw[<- cF i st,bW] at yU;refine yU.2.2 _ hm _ ?_ rfl;rw[b9 yB,zAp yB];exact d6
   refine zAh 1<|zAc<|zAs ((i:Int)<(st.length:Int)) (by omega)<|zAf<|zAc<|zAd 2<|zAl 1<|S_a [(2,.v (I (st.getD i 0)))] (ap (zBi (0) (by omega):(map I st)[i]? = some (I (st.getD i 0))) an)<|S_g 3<|zAl 2<|S_a [(3,.ob),(0,.ob),(0,.v (zA1 (take i st)))] (ap ((by exact zAQ (by simp only[bf,zzLn,zAJ]<;>omega)):i.ble (map I st).length=true)<|ap ((by exact all_map _):((map I st).all fun x=>x.cells.length.beq ((fun x=>x.size) Tryz.prog.types[3]))=true)<|ap ((by simp):sl (take i (drop 0 (map I st)))=zA1 (take i st)) an)<|zAn 1<|S_a [(8,.ret (bool (has (take i st) (st.getD i 0))) [])] (ap (f58 (take i st) (st.getD i 0) (by first|omega|(simp<;>omega))) an)<|zAR<|zDw (has (take i st) (st.getD i 0)) (fun k1=>(zAh 5<|zAk<|E_a [] an (tup [PV.nilp,sl [],agg [PV.nilf],I 5]) [] ?_ rfl)) (fun k1=>(zAf<|zAb<|S_i i<|S_g 1 ?_))
   ·rw[jT] at k1;cases k1
   ·exact rnd (i+1) (by omega) (by omega)
  ·refine zAh 1<|zAc<|zAu ((i:Int)<(st.length:Int)) (by omega)<|zAq 1<|zAl 3<|S_a [(7,.ret (hdV (zAM n cs e.toNat)) [])] (ap (f92 n cs e (by omega) (by omega)) an)<|S_a [(7,.ret (own 2 (map prV (zAI n (zAM n cs e.toNat)))) [])] (ap (f91 n cs (zAM n cs e.toNat) (by omega) (by omega)) an)<|zAn 1<|S_a [(3,.v (prs (zAI n (zAM n cs e.toNat))))] (ap ((zS7 (zAz _)):sl (zAv (map prV (zAI n (zAM n cs e.toNat))))=prs (zAI n (zAM n cs e.toNat))) an)<|zAR<|zAh 8<|zAk E_0
theorem f121_2(n:Nw)(cs:LP)(e:Int)(st:LI)(ho:EvOk n cs e)(yD:st.length<1000000)(hb:(!st.all fun x=>inB x 0 (n.s.length-1))=true):FG 121 [nwV n,prs cs,I e,zA1 st] (.tup [.nilp,.sl [],.agg [.nilf],I 1]):=by
 have ga:=ho.cr.nw.sl.2;refine zAe Tryz.f121 ?_;refine zAh 6<|zAl 3<|S_a [(10,.ret (tup [zE9 n cs,I 0]) [])] (ap (f90_1 n cs e (by omega)) an)<|S_g 6<|zAc<|zAd 0<|zAh 3<|zAD<|zAl 3<|S_a [(7,.ret (bool (st.all fun x=>inB x 0 ((n.s.length:Int)-1))) [])] (ap (f108_2 n (by omega) st (by omega)) an)<|S_g 2<|zDw (!st.all fun x=>inB x 0 ((n.s.length:Int)-1)) (fun k0=>(zAh 5<|zAk E_0)) (fun k0=>(zAf<|zAc<|zAl 1<|S_a [(0,.n st.length)] (ap (lnS I st) an)<|S_g 1<|zAd 1 ?_))
 all_goals (rw[hb] at k0;cases k0)
theorem f121_3(n:Nw)(cs:LP)(e:Int)(st:LI)(hs:Small n)(hl:cs.length<1000000)(ho:¬ zCf n cs e=0):FG 121 [nwV n,prs cs,I e,zA1 st] (.tup [.nilp,.sl [],.agg [.nilf],I (zCf n cs e)]):=by
 refine zAe Tryz.f121 ?_;refine zAh 6<|zAl 3<|S_a [(10,.ret (tup [PV.nilp,I (zCf n cs e)]) [])] (ap (f90_2 n cs e (by omega) (by omega) (by omega)) an)<|S_g 6<|zAc<|zAd 0<|zAh 3<|zCq (zCf n cs e=0) (by omega)<|zAh 6<|zAk E_0
theorem f173(n:Nw)(cs l:LP)(e:Int)(c:Int×Int)(ho:CrW n cs)(hl:cs.length<=16)(he:0<=e/\e<=1000)(ug:l.length<=1000)(hm:∀ g∈l,(0<=g.1/\g.1<n.h)/\(0<=g.2/\g.2<n.n.length))(hc:(0<=c.1/\c.1<n.n.length)/\(0<=c.2/\c.2<n.s.length)):FG 173 [prV c,.ref (zE9 n cs),.ref (prs l),.ref (I e)] (.sl ((zD6 n (zAM n (cs++[c]) e.toNat) l).map prV)):=by
 refine zAe Tryz.f173 ?_;refine zAh 2<|zAl 4<|S_a [(11,.ret (own 2 (map prV (zD6 n (zAM n (cs++[c]) e.toNat) l))) [])] (ap (f119 n cs l e c (by omega) (by omega) (by omega) (by omega) (by omega) (by omega)) an)<|S_g 1<|zAk<|E_z [(1,.envv ([(4,(prV c).box),(5,prs (zD6 n (zAM n (cs++[c]) e.toNat) l))]) (prs (zD6 n (zAM n (cs++[c]) e.toNat) l)))] (ap (And.intro (fZ (by kernel_rfl:Env.frz [(4,(prV c).box),(5,own 2 (map prV (zD6 n (zAM n (cs++[c]) e.toNat) l)))] 5 []=some [(4,(prV c).box),(5,sl (zAv (map prV (zD6 n (zAM n (cs++[c]) e.toNat) l))))]) ((by simp only[show zAv (map prV (zD6 n (zAM n (cs++[c]) e.toNat) l))=map prV (zD6 n (zAM n (cs++[c]) e.toNat) l) from(by first|exact zAz _|exact zAE _|exact zAB _|exact zA3 (zAE _)|exact zA3 (zAB _)|exact zCH (by simp[zBN]) (zAz _))]):some [(4,(prV c).box),(5,sl (zAv (map prV (zD6 n (zAM n (cs++[c]) e.toNat) l))))]=some [(4,(prV c).box),(5,prs (zD6 n (zAM n (cs++[c]) e.toNat) l))])) (zHa (by first|exact zAz _|exact zAE _|exact zAB _):PV.mapW (inl 5 [] (own 2 (map prV (zD6 n (zAM n (cs++[c]) e.toNat) l)))) (bor 5 [] 2 0 (map prV (zD6 n (zAM n (cs++[c]) e.toNat) l)).length)=prs (zD6 n (zAM n (cs++[c]) e.toNat) l))) an)
end Go.Eng
namespace Go.Eng
open Go Go.Proofs
def zYu(n:Nw)(g:Int×Int):Prop:=(0<=g.1/\g.1<n.h)/\(0<=g.2/\g.2<n.n.length)
theorem zOs{n:Nw}{w:LI}(g:Int×Int)(hg:g∈zAI n w):zYu n g:=by
 obtain⟨h,i,h1,h2,rfl,_⟩:=zD7 hg;unfold zYu;simp only;omega
def mdK(n:Nw)(K:List (List Bool))(g:Int×Int):Bool := !zMM n K g.1.toNat g.2.toNat
theorem zY0{n:Nw}{cs:LP}(ho:CrW n cs)(e:Nat){l:LP}(hl:∀ g∈l,zYu n g):l.filter (mdK n (zDz n cs e))=zD6 n (zAM n cs e) l:=by
 unfold zD6;refine dv fun g hg=>?_;obtain⟨h1,h2⟩:=hl g hg;unfold mdK zV1;rw[zS3 ho.nw (zEQ ho e) (by omega) (by omega),hld,cT h2.1];simp
def zM1(n:Nw)(cs:LP)(e:Nat)(G:LP)(st:LI)(k:Nat):List LP:=(range k).flatMap fun(i:Nat)=>st.map fun s=>zD6 n (zAM n (cs++[((i:Int),s)]) e) G
theorem zP1{st:LI}(h:∀ i,i<st.length->∀ k,k<i->st.getD i 0≠st.getD k 0):st.Nodup:=by
 refine dx.2 fun k i h1 h2 je=>?_;have:=h i h2 k je;rw[zAp h2,zAp h1] at this;exact fun e=>this e.symm
theorem zSy{st:LI}{i k:Nat}(hi:i<st.length)(hk:k<i)(h:st.getD i 0=st.getD k 0):¬ st.Nodup:=fun yU=>by
 have:=(dx.1 yU) k i (by omega) hi hk;rw[zAp hi,zAp (by omega)] at h;exact this h.symm
theorem zWF{n:Nw}{cs:LP}{e:Int}{st:LI}(h:zBr n cs e st=0):OffOk n cs e st:=by
 have h0:=h;unfold zBr at h;split at h
 case isFalse h2=>exact absurd h h2
 rename_i c1;split at h
 ·cases h
 rename_i c2;split at h
 case isFalse=>cases h
 rename_i c3;simp only[ce,bI,bj] at c2;exact⟨h0,zOk c1,fun s hs=>by have:=zEJ (c2 s hs);omega,c3⟩
end Go.Eng
namespace Go.Eng
abbrev Gp:=Int×Int
def zUz(J:Gp->Gp->Bool):Nat->List Gp->List Gp
 |0,_=>[]|_,[]=>[]|k+1,x::t=>if (zUz J k t).length<=(zUz J k (t.filter fun y=>!J x y)).length+1 then x::zUz J k (t.filter fun y=>!J x y) else zUz J k t
def aps(J:Gp->Gp->Bool)(l:List Gp):List Gp:=zUz J l.length l
section
variable (J:Gp->Gp->Bool)
theorem zIY:∀ (k:Nat) (l:List Gp),l.length<=k->zUz J k l=zUz J l.length l
 |0,[],_=>rfl|0,x::t,h=>absurd h (by simp)|k+1,[],_=>rfl|k+1,x::t,h=>by
  have h1:=bJ (fun y=>!J x y) t;simp only[bE] at h;rw[bE,zUz,zUz,zIY k t (by omega),zIY k (t.filter fun y=>!J x y) (by omega),<- zIY t.length (t.filter fun y=>!J x y) (by omega)]
theorem zO4:aps J []=[]:=rfl
theorem zDO{x:Gp}{t:List Gp}:aps J (x::t)=if (aps J t).length<=(aps J (t.filter fun y=>!J x y)).length+1 then x::aps J (t.filter fun y=>!J x y) else aps J t:=by
 unfold aps;rw[bE,zUz,zIY J t.length (t.filter fun y=>!J x y) (bJ _ _)]
theorem zH5:∀ (k:Nat) (l:List Gp),l.length<=k->(aps J l).Sublist l
 |_,[],_=>by rw[zO4];exact List.Sublist.slnil|0,x::t,h=>absurd h (by simp)|k+1,x::t,h=>by
  have h1:=bJ (fun y=>!J x y) t;simp only[bE] at h;rw[zDO];split
  ·exact((zH5 k _ (by omega)).trans dU).cons_cons x
  ·exact(zH5 k t (by omega)).cons x
theorem zF2(l:List Gp):(aps J l).length<=l.length:=(zH5 J _ l (bi _)).length_le
def btr(ch out:List Gp):List Gp:=if out.length<ch.length then ch else out
def okB(ch:List Gp)(y:Gp):Bool:=ch.all fun g=>!J g y
def srh:List Gp->List Gp->List Gp->List Gp
 |[],_,out=>out|x::t,ch,out=>if out.length<ch.length+(t.length+1) then srh t ch (if okB J ch x=true then srh t (ch++[x]) (btr (ch++[x]) out) else out) else out
theorem zQH:∀ (t ch out:List Gp),ch.length<=out.length->srh J t ch out=if out.length<ch.length+(aps J (t.filter (okB J ch))).length then ch++aps J (t.filter (okB J ch)) else out
 |[],ch,out,h=>by
  rw[srh,iM,zO4,if_neg (by simp only[b8];omega)]
 | x :: t, ch,out,h=>by
  have hR:=zF2 J ((x::t).filter (okB J ch));have hF:=bJ (okB J ch) (x::t);rw[bE] at hF;rw[srh];split
  case isFalse h1=>rw[if_neg (by omega)]
  case isTrue h1=>
   clear hR hF;by_cases hx:okB J ch x=true
   ·rw[if_pos hx,cG hx];have e1:(t.filter (okB J (ch++[x])))=(t.filter (okB J ch)).filter fun y=>!J x y:=by
     rw[fi];refine dv fun y _=>?_;simp only[okB,ie,cO,List.all_nil,fV];exact Bool.and_comm _ _
    have hb:(ch++[x]).length<=(btr (ch++[x]) out).length:=by unfold btr;split<;>omega
    rw[zQH t (ch++[x]) _ hb,e1];have ih:=zQH t ch;generalize t.filter (okB J ch)=R at *;rw[zDO];generalize aps J (R.filter fun y=>!J x y)=A;have e2:(if (btr (ch++[x]) out).length<(ch++[x]).length+A.length then ch++[x]++A else btr (ch++[x]) out)=if out.length<ch.length+(A.length+1) then ch++x::A else out:=by
     unfold btr;simp only[bt,bE,b8];by_cases c1:out.length<ch.length+(0+1)
     ·rw[if_pos c1,if_pos (show out.length<ch.length+(A.length+1) by omega)]
      cases A with
      |nil=>simp|cons a A=>rw[if_pos (by simp)];simp
     ·rw[if_neg c1];by_cases c2:out.length<ch.length+(A.length+1)
      ·rw[if_pos (by omega),if_pos c2];simp
      ·rw[if_neg (by omega),if_neg c2]
    rw[e2,ih _ (by split<;>(try simp only[bt,bE])<;>omega)];generalize aps J R=B;by_cases c2:out.length<ch.length+(A.length+1)
    ·rw[if_pos c2];simp only[bt,bE];by_cases c3:B.length<=A.length+1
     ·rw[if_pos c3,if_neg (by omega),if_pos (by simp only[bE];omega)]
     ·rw[if_neg c3,if_pos (by omega),if_pos (by omega)]
    ·rw[if_neg c2];by_cases c3:B.length<=A.length+1
     ·rw[if_pos c3,if_neg (by omega),if_neg (by simp only[bE];omega)]
     ·rw[if_neg c3]
   ·rw[if_neg hx,b4 hx];exact zQH t ch out h
theorem zWR(l:List Gp):srh J l [] (btr [] [])=aps J l:=by
 have e1:l.filter (okB J [])=l:=fI.2 fun _ _=>rfl;rw[zQH J l [] _ (bG _),e1];show(if 0<0+(aps J l).length then[]++aps J l else[])=_
 cases aps J l with
 |nil=>rfl|cons a t=>rw[if_pos (by simp)];rfl
theorem zMw{m:Nat}:∀ (t ch out:List Gp),out.length<=m->ch.length+t.length<=m->(srh J t ch out).length<=m
 |[],_,_,h,_=>h
 | x :: t,ch,out,h,h2=>by
  rw[bE] at h2;rw[srh];split
  ·refine zMw t ch _ ?_ (by omega);split
   ·refine zMw t _ _ ?_ (by simp only[bt,bE,b8];omega);unfold btr;split
    ·simp only[bt,bE,b8];omega
    ·exact h
   ·exact h
  ·exact h
end
theorem zKG{J J':Gp->Gp->Bool}:∀ (k:Nat) (l:List Gp),l.length<=k->l.Nodup->(∀ x∈l,∀ y∈l,x≠y->J x y=J' x y)->aps J l=aps J' l
 |_,[],_,_,_=>rfl|0,x::t,h,_,_=>absurd h (by simp)
 | k + 1,x::t,h,hn,he=>by
  have h1:=bJ (fun y=>!J x y) t;simp only[bE] at h;rw[cz] at hn;have ef:(t.filter fun y=>!J x y)=t.filter fun y=>!J' x y:=dv fun y hy=>by
   rw[he x (d6 ..) y (cM _ hy) fun e=>hn.1 (e▸hy)]
  have e1:=zKG k t (by omega) hn.2 fun a ha b hb=>he a (cM _ ha) b (cM _ hb);have e2:=zKG k (t.filter fun y=>!J x y) (by omega) (hn.2.sublist dU) fun a ha b hb=>he a (cM _ (bT.1 ha).1) b (cM _ (bT.1 hb).1);rw[zDO,zDO,e1,e2,ef]
theorem zKa{α:Type}(P:α->Bool):∀ l:List α,l.length=(l.filter P).length+(l.filter fun x=>!P x).length
 |[]=>rfl|x::l=>by
  have ih:=zKa P l;cases h:P x<;>simp[h]<;>omega
theorem zIb{J:Gp->Gp->Bool}:∀ (k:Nat) (l:List Gp),l.length<=k->∀ P:Gp->Bool,(∀ x y,J x y=true->P x=P y)->(aps J l).filter P=aps J (l.filter P)
 |_,[],_,_,_=>rfl|0,x::t,h,_,_=>absurd h (by simp)
 | k + 1,x::t,h,P,hP=>by
  have h1:=bJ (fun y=>!J x y) t;simp only[bE] at h;have hQ:∀ a b,J a b=true->(!P a) = !P b:=fun a b hab=>by rw[hP a b hab]
  have ih1:=zIb (J:=J) k t (by omega);have ih2:=zIb (J:=J) k (t.filter fun y=>!J x y) (by omega);by_cases hx:P x=true
  ·have q1:=ih1 (fun y=>!P y) hQ;have q2:=ih2 (fun y=>!P y) hQ;have eQ:(t.filter fun y=>!J x y).filter (fun y=>!P y)=t.filter fun y=>!P y:=by
    rw[fi];refine dv fun y _=>?_;cases hj:J x y
    ·simp
    ·rw[<- hP x y hj,hx];rfl
   rw[eQ,<- q1] at q2;have eP:(t.filter fun y=>!J x y).filter P=(t.filter P).filter fun y=>!J x y:=by
    rw[fi,fi];exact dv fun y _=>Bool.and_comm _ _
   have p1:=ih1 P hP;have p2:=ih2 P hP;rw[eP] at p2;have l1:=zKa P (aps J t);have l2:=zKa P (aps J (t.filter fun y=>!J x y));rw[p1] at l1;rw[p2,q2] at l2;rw[cG hx,zDO,zDO];by_cases c:(aps J t).length<=(aps J (t.filter fun y=>!J x y)).length+1
   ·rw[if_pos c,if_pos (by omega),cG hx,p2]
   ·rw[if_neg c,if_neg (by omega),p1]
  ·have eP:(t.filter fun y=>!J x y).filter P=t.filter P:=by
    rw[fi];refine dv fun y _=>?_;cases hj:J x y
    ·simp
    ·rw[<- hP x y hj,ce] at *;simp[hx]
   rw[b4 hx,zDO];split
   ·rw[b4 hx,ih2 P hP,eP]
   ·rw[ih1 P hP]
theorem zIF{α:Type}(p q:α->Bool)(hd:∀ x,p x=true->q x=false):∀ l:List α,(l.filter p++l.filter q).Perm (l.filter fun x=>p x||q x)
 |[]=>List.Perm.refl _
 | x :: l=>by
  have ih:=zIF p q hd l;cases hp:p x
  ·cases hq:q x
   ·rw[b4 (by simp[hp]),b4 (by simp[hq]),b4 (by simp[hp,hq])];exact ih
   ·rw[b4 (by simp[hp]),cG hq,cG (by simp[hq])];exact List.perm_middle.trans (ih.cons x)
  ·rw[cG hp,b4 (by simp[hd x hp]),cG (by simp[hp])];exact ih.cons x
theorem zLl{α:Type}(key:α->Nat)(l:List α):∀ k,((range k).flatMap fun i=>l.filter fun x=>decide (key x=i)).Perm (l.filter fun x=>decide (key x<k))
 |0=>by
  rw[iS.2 (by simp)];exact List.Perm.refl _
 |k + 1=>by
  rw[bV,dD,d8,List.flatMap_nil,dO];refine((zLl key l k).append_right _).trans ((zIF _ _ ?_ l).trans ?_)
  ·intro x h;simp only[decide_eq_true_eq] at h;rw[decide_eq_false_iff_not];omega
  ·rw[dv];intro x _;rw[cA];simp only[bS,decide_eq_true_eq];omega
def zZ6(l:List Gp):List Gp:=l.mergeSort zLv
theorem zX4{l m:List Gp}(h:l.Perm m)(hm:m.Pairwise fun x y=>zLv x y=true):zZ6 l=m:=by
 have ht:∀ a b c:Gp,zLv a b=true->zLv b c=true->zLv a c=true:=fun a b c h1 h2=>by
  simp only[zLv,bS,bb,decide_eq_true_eq] at *;omega
 have htt:∀ a b:Gp,(zLv a b||zLv b a)=true:=fun a b=>by
  simp only[zLv,bS,bb,decide_eq_true_eq];omega
 have h1:=List.pairwise_mergeSort ht htt l;have h2:=(List.mergeSort_perm l zLv).trans h;refine h2.eq_of_pairwise (fun a b _ _ h3 h4=>?_) h1 hm;simp only[zLv,bS,bb,decide_eq_true_eq] at *;exact fu (by omega) (by omega)
end Go.Eng
namespace Go.Eng
open Go Go.Proofs
def zD1(n:Nw):Int:=if zBF n.h n.l=0 then if zCK n.n=0 then if (!n.s.all fun x=>zJD n.h x)=true then 1 else if (!n.s.all fun x=>zDx x)=true then 4 else 0 else zCK n.n else zBF n.h n.l
theorem zXy{n:Nw}(h1:(!inB n.h 1 10)=false)(h2:¬ (n.l.length:Int)>15)(h3:(!inB n.n.length 1 8)=false)(h4:(!inB n.s.length 1 6)=false):zDg n=zD1 n:=by
 simp only[zDg,h1,h2,h3,h4,if_false];rfl
theorem zIB{α:Type}{p:α->Bool}{l:List α}{i:Nat}{d:α}(h:i<l.length)(hx:p (l.getD i d)=false):(l.all p)=false:=by
 rw[zAp h] at hx;simp only[dQ];exact⟨_,cu h,by simp[hx]⟩
theorem zJ8{α:Type}{p:α->Bool}{l:List α}{d:α}(h:∀ i,i<l.length->p (l.getD i d)=true):(l.all p)=true:=by
 simp only[bj];intro x hx;obtain⟨i,hi,rfl⟩:=dg hx;have:=h i hi;rwa[zAp hi] at this
theorem zPK{n:Nw}{i:Nat}(hi:i<n.l.length)(h:zHr n.h (n.l.getD i d0)=false):zD1 n=1:=by
 have:zBF n.h n.l=1:=by simp only[zBF,zIB hi h];rfl
 simp only[zD1,this];rfl
theorem zWV{n:Nw}{i:Nat}(ha:(n.l.all fun x=>zHr n.h x)=true)(hi:i<n.l.length)(h:zIz (n.l.getD i d0)=false):zD1 n=8:=by
 have:zBF n.h n.l=8:=by simp only[zBF,ha,zIB hi h];rfl
 simp only[zD1,this];rfl
theorem zX0{n:Nw}{i k:Nat}(ha:(n.l.all fun x=>zHr n.h x)=true)(hb:(n.l.all fun x=>zIz x)=true)(je:k<i)(hi:i<n.l.length)(h:pr2 (n.l.getD i d0)=pr2 (n.l.getD k d0)):zD1 n=5:=by
 have hn:¬ (n.l.map pr2).Nodup:=fun yU=>by
  have:=(dx.1 yU) k i (by simp;omega) (by simp;omega) je;rw[dB,dB] at this;rw[zAp hi,zAp (by omega)] at h;exact this h.symm
 have:zBF n.h n.l=5:=by simp only[zBF,ha,hb,hn,if_true,if_false]
 simp only[zD1,this];rfl
theorem zWX{n:Nw}(ha:(n.l.all fun x=>zHr n.h x)=true)(hb:(n.l.all fun x=>zIz x)=true)(h:∀ i,i<n.l.length->∀ k,k<i->pr2 (n.l.getD i d0)≠pr2 (n.l.getD k d0)):zBF n.h n.l=0:=by
 have hn:(n.l.map pr2).Nodup:=by
  refine dx.2 fun k i h1 h2 je=>?_;simp only[bf] at h1 h2;have:=h i h2 k je;rw[zAp h2,zAp h1] at this;simp only[dB];exact fun e=>this e.symm
 simp only[zBF,ha,hb,hn,if_true]
theorem zYp{n:Nw}(hl:zBF n.h n.l=0){i:Nat}(hi:i<n.n.length)(h:inB (n.n.getD i d0).1 (-1) ((i:Int)-1)=false):zD1 n=1:=by
 have:zOl n.n=false:=by
  simp only[zOl,dQ];exact⟨i,bx.2 hi,by rw[h];simp⟩
 have:zCK n.n=1:=by simp only[zCK,this];rfl
 simp only[zD1,hl,this];rfl
theorem zZ4{n:Nw}(h:∀ i,i<n.n.length->inB (n.n.getD i d0).1 (-1) ((i:Int)-1)=true):zOl n.n=true:=by
 simp only[zOl,bj,bx];exact h
theorem zWr{l:List (Int×Bool)}{i:Nat}(hi:i<l.length)(hr:inB (l.getD i d0).1 (-1) ((i:Int)-1)=true):zMN l i=true↔∃ k,k<i/\0<=(l.getD i d0).1/\(l.getD i d0).1=(l.getD k d0).1:=by
 have hr:=zEJ hr;simp only[zMN,bb,decide_eq_true_eq,bP];constructor
 ·rintro⟨h1,x,h2,h3⟩;obtain⟨k,hk,rfl⟩:=dg h2;rw[bZ] at hk;refine⟨k,by omega,by omega,?_⟩;rw[zAp (l:=l) (i:=k) (by omega)];rw[ir] at h3;exact h3.symm
 ·rintro ⟨k,h1,h2,h3⟩;refine ⟨by omega, (l.take i)[k]'(by rw [bZ]; omega), cu _, ?_⟩;rw [ir,h3,zAp (l:=l) (i:=k) (by omega)]
theorem zXC{n:Nw}(hl:zBF n.h n.l=0)(hn:zOl n.n=true){i k:Nat}(je:k<i)(hi:i<n.n.length)(h1:(n.n.getD i d0).1>=0)(h2:(n.n.getD i d0).1=(n.n.getD k d0).1):zD1 n=5:=by
 have hr:inB (n.n.getD i d0).1 (-1) ((i:Int)-1)=true:=by
  simp only[zOl,bj,bx] at hn;exact hn i hi
 have:(range n.n.length).any (zMN n.n)=true:=bP.2 ⟨i,bx.2 hi,(zWr hi hr).2 ⟨k,je,h1,h2⟩⟩;have:zCK n.n=5:=by simp only[zCK,hn,this,if_true]
 simp only[zD1,hl,this];rfl
theorem zZB{n:Nw}(hn:zOl n.n=true)(h:∀ i,i<n.n.length->∀ k,k<i->¬ ((n.n.getD i d0).1>=0/\(n.n.getD i d0).1=(n.n.getD k d0).1)):zCK n.n=0:=by
 have:(range n.n.length).any (zMN n.n)=false:=by
  simp only[cD,bx];intro i hi ht;have hr:inB (n.n.getD i d0).1 (-1) ((i:Int)-1)=true:=by
   simp only[zOl,bj,bx] at hn;exact hn i hi
  obtain⟨k,h1,h2,h3⟩:=(zWr hi hr).1 ht;exact h i hi k h1 ⟨h2,h3⟩
 simp only[zCK,hn,this,if_true];rfl
theorem zYg{n:Nw}(hl:zBF n.h n.l=0)(hn:zCK n.n=0){s i:Nat}(hs:s<n.s.length)(hi:i<(n.s.getD s []).length)(h:inB ((n.s.getD s []).getD i 0) 0 (n.h-1)=false):zD1 n=1:=by
 have:(n.s.all fun x=>zJD n.h x)=false:=zIB (d:=[]) hs (zIB (d:=0) hi h);simp only[zD1,hl,hn,this];rfl
theorem zXz{n:Nw}(hl:zBF n.h n.l=0)(hn:zCK n.n=0)(hs:(n.s.all fun x=>zJD n.h x)=true){s i:Nat}(jE:s<n.s.length)(hi:i+1<(n.s.getD s []).length)(h:(n.s.getD s []).getD i 0>=(n.s.getD s []).getD (i+1) 0):zD1 n=4:=by
 have h1:zDx (n.s.getD s [])=false:=by
  rw[zIl];simp only[zVH,dQ,bx,decide_eq_true_eq];exact⟨i,by omega,by omega⟩
 have:(n.s.all fun x=>zDx x)=false:=zIB (d:=[]) jE h1;simp only[zD1,hl,hn,hs,this];rfl
theorem zZs{l:LI}(h:∀ i,i+1<l.length->l.getD i 0<l.getD (i+1) 0):zDx l=true:=by
 rw[zIl];simp only[zVH,bj,bx,decide_eq_true_eq];exact fun i hi=>h i (by omega)
theorem zZk{n:Nw}(hl:zBF n.h n.l=0)(hn:zCK n.n=0)(hs:(n.s.all fun x=>zJD n.h x)=true)(ho:(n.s.all fun x=>zDx x)=true):zD1 n=0:=by
 simp only[zD1,hl,hn,hs,ho];rfl
end Go.Eng
set_option maxRecDepth 10000
set_option maxHeartbeats 4000000
namespace Go.Eng
open Go Go.Proofs
theorem ntt{a:Bool}(h:(!a)=true):a=false:=by simpa using h
theorem ntf{a:Bool}(h:(!a)=false):a=true:=by simpa using h
theorem zYF{a b:Int×Int}(h:a.1=b.1/\a.2=b.2\/a.1=b.2/\a.2=b.1):pr2 a=pr2 b:=by
 obtain⟨x,y⟩:=b;exact zPZ.2 h
theorem zXm{a b:Int×Int}(h:¬ (a.1=b.1/\a.2=b.2\/a.1=b.2/\a.2=b.1)):pr2 a≠pr2 b:=by
 obtain⟨x,y⟩:=b;exact fun e=>h (zPZ.1 e)
theorem zGI{p:Nat->Prop}{i:Nat}(ha:∀ j,j<i->p j)(hi:p i):∀ j,j<i+1->p j:=fun j hj=>by
 rcases bC.1 hj with h|rfl
 ·exact ha j h
 ·exact hi
theorem f117(n:Nw)(hs:Small n):FG 117 [nwV n] (I (zDg n)):=by
 refine zAe Tryz.f117 ?_;have h1:=hs.hl;have h2:=hs.hn;have h3:=hs.hs;refine zAh 2<|zAc<|zAl 2<|S_a [(10,.ret (bool !inB n.h 1 10) [])] (ap (f111 n.h (1) (10)) an)<|zAn 1<|zEq 19 (!inB n.h 1 10) (fun k0=>(S_g 17<|zBD<|zAh 1<|zAk<|E_a [] an (I 2) [] ?_ rfl)) (fun k0=>(zAn 2<|S_a [(0,.n n.l.length)] (ap (lnS prV n.l) an)<|zAn 3<|zDh 25 ((n.l.length:Int)>15) (fun k1=>(S_g 11<|zBD<|zAh 1<|zAk<|E_a [] an (I 2) [] ?_ rfl)) (fun k1=>(zAn 2<|S_a [(0,.n n.n.length)] (ap (lnS ntV n.n) an)<|S_a [(10,.ret (bool !inB (n.n.length:Int) 1 8) [])] (ap (f111 ((n.n.length:Int)) (1) (8)) an)<|zAn 2<|zEq 31 (!inB (n.n.length:Int) 1 8) (fun k2=>(S_g 5<|zBD<|zAh 1<|zAk<|E_a [] an (I 2) [] ?_ rfl)) (fun k2=>(zAn 2<|S_a [(0,.n n.s.length)] (ap (lnS zA1 n.s) an)<|S_a [(10,.ret (bool !inB (n.s.length:Int) 1 6) [])] (ap (f111 ((n.s.length:Int)) (1) (6)) an)<|S_g 1<|zDw (!inB (n.s.length:Int) 1 6) (fun k3=>(zAh 1<|zAk<|E_a [] an (I 2) [] ?_ rfl)) (fun k3=>(zAf<|zAc<|zAh 1<|zAd 0 ?_))))))))
 ·simp only[zDg,k0,if_true]
 ·simp only[zDg,k0,k1,if_true];rfl
 ·simp only[zDg,k0,k1,k2,if_true,if_false];rfl
 ·simp only[zDg,k0,k1,k2,k3,if_true,if_false];rfl
 rw[zXy k0 k1 k2 k3];have hh:=zEJ (ntf k0);have kN:=zEJ (ntf k2);clear k0 k1 k2 k3;refine zAo (fun i=>i<=n.l.length/\∀ j,j<i->zHr n.h (n.l.getD j d0)=true) (fun(i:Nat)=>[(3,I (i:Nat))]) (fun i=>n.l.length-i) (0:Nat) ⟨bG _,fun j hj=>absurd hj (bH j)⟩ fun i ⟨hi,ha⟩=>?_;by_cases yB:i<n.l.length
 ·have ya:=zGI ha;clear ha;refine zAc<|zAl 3<|S_a [(0,.n n.l.length)] (ap (lnS prV n.l) an)<|S_g 1<|zAs ((i:Int)<(n.l.length:Int)) (by omega)<|zAf<|zAc<|zAd 1<|zAl 3<|S_a [(2,.v (prV (n.l.getD i d0)))] (ap (zBi d0 (by omega):(map prV n.l)[i]? = some (prV (n.l.getD i d0))) an)<|zAn 4<|S_a [(1,.v (I (n.h-1)))] (ap ((zBY rfl (by omega)):I (IntKind.i64.wrap (n.h-1))=I (n.h-1)) an)<|S_a [(10,.ret (bool !inB (n.l.getD i d0).fst 0 (n.h-1)) [])] (ap (f111 ((n.l.getD i d0).fst) (0) (n.h-1)) an)<|zAn 1<|zEq 54 (!inB (n.l.getD i d0).fst 0 (n.h-1)) (fun k0=>(S_g 11<|zBD<|zAh 1<|zAk<|E_a [] an (I 1) [] ?_ rfl)) (fun k0=>(zAn 3<|S_a [(2,.v (prV (n.l.getD i d0)))] (ap (zBi d0 (by omega):(map prV n.l)[i]? = some (prV (n.l.getD i d0))) an)<|zAn 4<|S_a [(1,.v (I (n.h-1)))] (ap ((zBY rfl (by omega)):I (IntKind.i64.wrap (n.h-1))=I (n.h-1)) an)<|S_a [(10,.ret (bool !inB (n.l.getD i d0).snd 0 (n.h-1)) [])] (ap (f111 ((n.l.getD i d0).snd) (0) (n.h-1)) an)<|S_g 1<|zDw (!inB (n.l.getD i d0).snd 0 (n.h-1)) (fun k1=>(zAh 1<|zAk<|E_a [] an (I 1) [] ?_ rfl)) (fun k1=>(zAf<|zAb<|zAn 1<|S_i i<|S_g 1 ?_))))
  ·rw[zPK yB (by simp only[zHr,ntt k0,di])]
  ·rw[zPK yB (by simp only[zHr,ntt k1,dC])]
  ·exact rnd (i+1) ⟨by omega,ya (by simp only[zHr,ntf k0,ntf k1,ci])⟩ (by omega)
 have hA:(n.l.all fun x=>zHr n.h x)=true:=zJ8 fun i hi=>ha i (by omega);clear ha;refine zAc<|zAl 3<|S_a [(0,.n n.l.length)] (ap (lnS prV n.l) an)<|S_g 1<|zAu ((i:Int)<(n.l.length:Int)) (by omega)<|zAq 0<|zAc<|zAh 1<|zAd 2 ?_
 refine zAo (fun i=>i<=n.l.length/\∀ j,j<i->zIz (n.l.getD j d0)=true) (fun(i:Nat)=>[(4,I (i:Nat))]) (fun i=>n.l.length-i) (0:Nat) ⟨bG _,fun j hj=>absurd hj (bH j)⟩ fun i ⟨hi,ha⟩=>?_;by_cases yB:i<n.l.length
 ·have ya:=zGI ha;clear ha;refine zAc<|zAl 3<|S_a [(0,.n n.l.length)] (ap (lnS prV n.l) an)<|S_g 1<|zAs ((i:Int)<(n.l.length:Int)) (by omega)<|zAf<|zAc<|zAd 3<|zAl 3<|S_a [(2,.v (prV (n.l.getD i d0)))] (ap (zBi d0 (by omega):(map prV n.l)[i]? = some (prV (n.l.getD i d0))) an)<|zAn 5<|S_a [(2,.v (prV (n.l.getD i d0)))] (ap (zBi d0 (by omega):(map prV n.l)[i]? = some (prV (n.l.getD i d0))) an)<|S_g 3<|zB2 ((n.l.getD i d0).fst=(n.l.getD i d0).snd) (fun k0=>(zAh 1<|zAk<|E_a [] an (I 8) [] ?_ rfl)) (fun k0=>(zAf<|zAb<|zAn 1<|S_i i<|S_g 1 ?_))
  ·rw[zWV hA yB (by simp only[zIz,decide_eq_false_iff_not];exact fun h=>h k0)]
  ·exact rnd (i+1) ⟨by omega,ya (by simp only[zIz,decide_eq_true_eq];exact k0)⟩ (by omega)
 have hB:(n.l.all fun x=>zIz x)=true:=zJ8 fun i hi=>ha i (by omega);clear ha;refine zAc<|zAl 3<|S_a [(0,.n n.l.length)] (ap (lnS prV n.l) an)<|S_g 1<|zAu ((i:Int)<(n.l.length:Int)) (by omega)<|zAq 2<|zAc<|zAh 1<|zAd 4 ?_
 refine zAo (fun i=>i<=n.l.length/\∀ j,j<i->∀ k,k<j->pr2 (n.l.getD j d0)≠pr2 (n.l.getD k d0)) (fun(i:Nat)=>[(5,I (i:Nat))]) (fun i=>n.l.length-i) (0:Nat) ⟨bG _,fun j hj=>absurd hj (bH j)⟩ fun i ⟨hi,ha⟩=>?_;by_cases yB:i<n.l.length
 ·have ya:=zGI ha;clear ha;refine zAc<|zAl 3<|S_a [(0,.n n.l.length)] (ap (lnS prV n.l) an)<|S_g 1<|zAs ((i:Int)<(n.l.length:Int)) (by omega)<|zAf<|zAc<|zAd 5<|zAh 1<|zAd 6 ?_
  refine zAo (fun k=>k<=i/\∀ j,j<k->pr2 (n.l.getD i d0)≠pr2 (n.l.getD j d0)) (fun(k:Nat)=>[(6,I (k:Nat))]) (fun k=>i-k) (0:Nat) ⟨bG _,fun j hj=>absurd hj (bH j)⟩ fun k ⟨hk,hb⟩=>?_;by_cases je:k<i
  ·have jg:=zGI hb;clear hb ya;refine zAc<|zAh 3<|zAs ((k:Int)<(i:Int)) (by omega)<|zAf<|zAc<|zAd 7<|zAl 3<|S_a [(2,.v (prV (n.l.getD i d0)))] (ap (zBi d0 (by omega):(map prV n.l)[i]? = some (prV (n.l.getD i d0))) an)<|zAn 4<|S_a [(2,.v (prV (n.l.getD k d0)))] (ap (zBi d0 (by omega):(map prV n.l)[k]? = some (prV (n.l.getD k d0))) an)<|S_g 5<|zAl 1<|zAn 1<|zAn 1<|zAn 3<|zDh 113 ((n.l.getD i d0).fst=(n.l.getD k d0).fst) (fun k1=>(zAn 1<|zAn 1<|zAn 1<|zAn 4<|zDh 120 ((n.l.getD i d0).snd=(n.l.getD k d0).snd) (fun k2=>(S_g 13<|zBD<|zAh 1<|zAk<|E_a [] an (I 5) [] ?_ rfl)) (fun k2=>(zAn 1<|zAn 1<|zAn 1<|zAn 3<|zDh 126 ((n.l.getD i d0).fst=(n.l.getD k d0).snd) (fun k3=>(zAn 1<|zAn 1<|zAn 1<|S_g 4<|zAu ((n.l.getD i d0).snd=(n.l.getD k d0).fst) (by omega)<|zAf<|zAb<|zAn 1<|S_i k<|S_g 1 ?_)) (fun k3=>(S_g 7<|zAD<|zAf<|zAb<|zAn 1<|S_i k<|S_g 1 ?_)))))) (fun k1=>(zAn 7<|zAn 1<|zAn 1<|zAn 1<|zAn 3<|zDh 126 ((n.l.getD i d0).fst=(n.l.getD k d0).snd) (fun k4=>(zAn 1<|zAn 1<|zAn 1<|S_g 4<|zB2 ((n.l.getD i d0).snd=(n.l.getD k d0).fst) (fun k5=>(zAh 1<|zAk<|E_a [] an (I 5) [] ?_ rfl)) (fun k5=>(zAf<|zAb<|zAn 1<|S_i k<|S_g 1 ?_)))) (fun k4=>(S_g 7<|zAD<|zAf<|zAb<|zAn 1<|S_i k<|S_g 1 ?_))))
   all_goals first
    |exact⟨k+1,⟨by omega,jg (zXm (by omega))⟩,by omega,by kernel_rfl,by kernel_rfl⟩
    |(have h5:=zX0 hA hB je yB (zYF (by omega));rw[h5])
  ·have yS:=ya fun j hj=>hb j (by omega);clear hb ya;refine zAc<|zAh 3<|zAu ((k:Int)<(i:Int)) (by omega)<|zAq 6<|zAb<|zAn 1<|S_i i<|S_g 1 ?_
   exact rnd (i+1) ⟨by omega,yS⟩ (by omega)
 have hC:=zWX hA hB fun i hi=>ha i (by omega);clear ha hA hB;refine zAc<|zAl 3<|S_a [(0,.n n.l.length)] (ap (lnS prV n.l) an)<|S_g 1<|zAu ((i:Int)<(n.l.length:Int)) (by omega)<|zAq 4<|zAc<|zAh 1<|zAd 8 ?_
 refine zAo (fun i=>i<=n.n.length/\∀ j,j<i->inB (n.n.getD j d0).1 (-1) ((j:Int)-1)=true) (fun(i:Nat)=>[(9,I (i:Nat))]) (fun i=>n.n.length-i) (0:Nat) ⟨bG _,fun j hj=>absurd hj (bH j)⟩ fun i ⟨hi,ha⟩=>?_;by_cases yB:i<n.n.length
 ·have ya:=zGI ha;clear ha;refine zAc<|zAl 3<|S_a [(0,.n n.n.length)] (ap (lnS ntV n.n) an)<|S_g 1<|zAs ((i:Int)<(n.n.length:Int)) (by omega)<|zAf<|zAc<|zAd 9<|zAl 3<|S_a [(2,.v (agg [I (n.n.getD i d0).fst,bool (n.n.getD i d0).snd]))] (ap (zBi d0 (by omega):(map ntV n.n)[i]? = some (agg [I (n.n.getD i d0).fst,bool (n.n.getD i d0).snd])) an)<|zAn 3<|S_a [(1,.v (I ((i:Int)-1)))] (ap ((zBY rfl (by omega)):I (IntKind.i64.wrap ((i:Int)-1))=I ((i:Int)-1)) an)<|S_a [(10,.ret (bool !inB (n.n.getD i d0).fst (-1) ((i:Int)-1)) [])] (ap (f111 ((n.n.getD i d0).fst) (-1) ((i:Int)-1)) an)<|zAR<|zDw (!inB (n.n.getD i d0).fst (-1) ((i:Int)-1)) (fun k0=>(zAh 1<|zAk<|E_a [] an (I 1) [] ?_ rfl)) (fun k0=>(zAf<|zAb<|zAn 1<|S_i i<|S_g 1 ?_))
  ·rw[zYp hC yB (ntt k0)]
  ·exact rnd (i+1) ⟨by omega,ya (ntf k0)⟩ (by omega)
 have hD:=zZ4 (n:=n) fun i hi=>ha i (by omega);clear ha;refine zAc<|zAl 3<|S_a [(0,.n n.n.length)] (ap (lnS ntV n.n) an)<|S_g 1<|zAu ((i:Int)<(n.n.length:Int)) (by omega)<|zAq 8<|zAc<|zAh 1<|zAd 10 ?_
 refine zAo (fun i=>i<=n.n.length/\∀ j,j<i->∀ k,k<j->¬ ((n.n.getD j d0).1>=0/\(n.n.getD j d0).1=(n.n.getD k d0).1)) (fun(i:Nat)=>[(10,I (i:Nat))]) (fun i=>n.n.length-i) (0:Nat) ⟨bG _,fun j hj=>absurd hj (bH j)⟩ fun i ⟨hi,ha⟩=>?_;by_cases yB:i<n.n.length
 ·have ya:=zGI ha;clear ha;refine zAc<|zAl 3<|S_a [(0,.n n.n.length)] (ap (lnS ntV n.n) an)<|S_g 1<|zAs ((i:Int)<(n.n.length:Int)) (by omega)<|zAf<|zAc<|zAd 11<|zAh 1<|zAd 12 ?_
  refine zAo (fun k=>k<=i/\∀ j,j<k->¬ ((n.n.getD i d0).1>=0/\(n.n.getD i d0).1=(n.n.getD j d0).1)) (fun(k:Nat)=>[(11,I (k:Nat))]) (fun k=>i-k) (0:Nat) ⟨bG _,fun j hj=>absurd hj (bH j)⟩ fun k ⟨hk,hb⟩=>?_;by_cases je:k<i
  ·have jg:=zGI hb;clear hb ya;refine zAc<|zAh 3<|zAs ((k:Int)<(i:Int)) (by omega)<|zAf<|zAc<|zAd 13<|zAl 3<|S_a [(2,.v (agg [I (n.n.getD i d0).fst,bool (n.n.getD i d0).snd]))] (ap (zBi d0 (by omega):(map ntV n.n)[i]? = some (agg [I (n.n.getD i d0).fst,bool (n.n.getD i d0).snd])) an)<|zAn 4<|zDh 169 ((n.n.getD i d0).fst>=0) (fun k1=>(zAn 3<|S_a [(2,.v (agg [I (n.n.getD i d0).fst,bool (n.n.getD i d0).snd]))] (ap (zBi d0 (by omega):(map ntV n.n)[i]? = some (agg [I (n.n.getD i d0).fst,bool (n.n.getD i d0).snd])) an)<|zAn 5<|S_a [(2,.v (agg [I (n.n.getD k d0).fst,bool (n.n.getD k d0).snd]))] (ap (zBi d0 (by omega):(map ntV n.n)[k]? = some (agg [I (n.n.getD k d0).fst,bool (n.n.getD k d0).snd])) an)<|S_g 4<|zB2 ((n.n.getD i d0).fst=(n.n.getD k d0).fst) (fun k2=>(zAh 1<|zAk<|E_a [] an (I 5) [] ?_ rfl)) (fun k2=>(zAf<|zAb<|zAn 1<|S_i k<|S_g 1 ?_)))) (fun k1=>(S_g 14<|zAD<|zAf<|zAb<|zAn 1<|S_i k<|S_g 1 ?_))
   all_goals first
    |exact⟨k+1,⟨by omega,jg (by omega)⟩,by omega,by kernel_rfl,by kernel_rfl⟩
    |(have h5:=zXC hC hD je yB (by assumption) (by assumption);rw[h5])
  ·have yS:=ya fun j hj=>hb j (by omega);clear hb ya;refine zAc<|zAh 3<|zAu ((k:Int)<(i:Int)) (by omega)<|zAq 12<|zAb<|zAn 1<|S_i i<|S_g 1 ?_
   exact rnd (i+1) ⟨by omega,yS⟩ (by omega)
 have hE:=zZB hD fun i hi=>ha i (by omega);clear ha;refine zAc<|zAl 3<|S_a [(0,.n n.n.length)] (ap (lnS ntV n.n) an)<|S_g 1<|zAu ((i:Int)<(n.n.length:Int)) (by omega)<|zAq 10<|zAc<|zAh 1<|zAd 14 ?_
 refine zAo (fun s=>s<=n.s.length/\∀ j,j<s->zJD n.h (n.s.getD j [])=true) (fun(s:Nat)=>[(12,I (s:Nat))]) (fun s=>n.s.length-s) (0:Nat) ⟨bG _,fun j hj=>absurd hj (bH j)⟩ fun s ⟨hi,ha⟩=>?_;by_cases yB:s<n.s.length
 ·have ya:=zGI ha;have kM:=zBt (d:=[]) hs.hr s yB;clear ha;refine zAc<|zAl 3<|S_a [(0,.n n.s.length)] (ap (lnS zA1 n.s) an)<|S_g 1<|zAs ((s:Int)<(n.s.length:Int)) (by omega)<|zAf<|zAc<|zAd 15<|zAh 1<|zAd 16 ?_
  refine zAo (fun k=>k<=(n.s.getD s []).length/\∀ j,j<k->inB ((n.s.getD s []).getD j 0) 0 (n.h-1)=true) (fun(k:Nat)=>[(13,I (k:Nat))]) (fun k=>(n.s.getD s []).length-k) (0:Nat) ⟨bG _,fun j hj=>absurd hj (bH j)⟩ fun k ⟨hk,hb⟩=>?_;by_cases je:k<(n.s.getD s []).length
  ·have jg:=zGI hb;clear hb ya;refine zAc<|zAl 4<|S_a [(2,.v (zA1 (n.s.getD s [])))] (ap (zBi [] (by omega):(map zA1 n.s)[s]? = some (zA1 (n.s.getD s []))) an)<|zAn 1<|S_a [(0,.n ((n.s.getD s []).length))] (ap (lnS I (n.s.getD s [])) an)<|S_g 1<|zAs ((k:Int)<(↑(n.s.getD s []).length:Int)) (by omega)<|zAf<|zAc<|zAd 17<|zAl 3<|S_a [(2,.v (zA1 (n.s.getD s [])))] (ap (zBi [] (by omega):(map zA1 n.s)[s]? = some (zA1 (n.s.getD s []))) an)<|zAn 2<|S_a [(2,.v (I ((n.s.getD s []).getD k 0)))] (ap (zBi (0) (by omega):(map I (n.s.getD s []))[k]? = some (I ((n.s.getD s []).getD k 0))) an)<|zAn 3<|S_a [(1,.v (I (n.h-1)))] (ap ((zBY rfl (by omega)):I (IntKind.i64.wrap (n.h-1))=I (n.h-1)) an)<|S_a [(10,.ret (bool !inB ((n.s.getD s []).getD k 0) 0 (n.h-1)) [])] (ap (f111 ((n.s.getD s []).getD k 0) (0) (n.h-1)) an)<|zAR<|zDw (!inB ((n.s.getD s []).getD k 0) 0 (n.h-1)) (fun k1=>(zAh 1<|zAk<|E_a [] an (I 1) [] ?_ rfl)) (fun k1=>(zAf<|zAb<|zAn 1<|S_i k<|S_g 1 ?_))
   ·rw[zYg hC hE yB je (ntt k1)]
   ·exact rnd (k+1) ⟨by omega,jg (ntf k1)⟩ (by omega)
  ·have yS:=ya (zJ8 (d:=0) fun j hj=>hb j (by omega));clear hb ya;refine zAc<|zAl 4<|S_a [(2,.v (zA1 (n.s.getD s [])))] (ap (zBi [] (by omega):(map zA1 n.s)[s]? = some (zA1 (n.s.getD s []))) an)<|zAn 1<|S_a [(0,.n ((n.s.getD s []).length))] (ap (lnS I (n.s.getD s [])) an)<|S_g 1<|zAu ((k:Int)<(↑(n.s.getD s []).length:Int)) (by omega)<|zAq 16<|zAb<|zAn 1<|S_i s<|S_g 1 ?_
   exact rnd (s+1) ⟨by omega,yS⟩ (by omega)
 have hF:(n.s.all fun x=>zJD n.h x)=true:=zJ8 (d:=[]) fun i hi=>ha i (by omega);clear ha;refine zAc<|zAl 3<|S_a [(0,.n n.s.length)] (ap (lnS zA1 n.s) an)<|S_g 1<|zAu ((s:Int)<(n.s.length:Int)) (by omega)<|zAq 14<|zAc<|zAh 1<|zAd 18 ?_
 refine zAo (fun s=>s<=n.s.length/\∀ j,j<s->zDx (n.s.getD j [])=true) (fun(s:Nat)=>[(14,I (s:Nat))]) (fun s=>n.s.length-s) (0:Nat) ⟨bG _,fun j hj=>absurd hj (bH j)⟩ fun s ⟨hi,ha⟩=>?_;by_cases yB:s<n.s.length
 ·have ya:=zGI ha;have kM:=zBt (d:=[]) hs.hr s yB;clear ha;refine zAc<|zAl 3<|S_a [(0,.n n.s.length)] (ap (lnS zA1 n.s) an)<|S_g 1<|zAs ((s:Int)<(n.s.length:Int)) (by omega)<|zAf<|zAc<|zAd 19<|zAh 1<|zAd 20 ?_
  refine zAo (fun m=>(m=0\/m+1<=(n.s.getD s []).length)/\∀ j,j<m->(n.s.getD s []).getD j 0<(n.s.getD s []).getD (j+1) 0) (fun(m:Nat)=>[(15,I ((m+1:Nat):Int))]) (fun m=>(n.s.getD s []).length-m) (0:Nat) ⟨.inl rfl,fun j hj=>absurd hj (bH j)⟩ fun m ⟨hk,hb⟩=>?_;by_cases je:m+1<(n.s.getD s []).length
  ·have jg:=zGI hb;clear hb ya;refine zAc<|zAl 4<|S_a [(2,.v (zA1 (n.s.getD s [])))] (ap (zBi [] (by omega):(map zA1 n.s)[s]? = some (zA1 (n.s.getD s []))) an)<|zAn 1<|S_a [(0,.n ((n.s.getD s []).length))] (ap (lnS I (n.s.getD s [])) an)<|S_g 1<|zAs ((↑(m+1):Int)<(↑(n.s.getD s []).length:Int)) (by omega)<|zAf<|zAc<|zAd 21<|zAl 3<|S_a [(2,.v (zA1 (n.s.getD s [])))] (ap (zBi [] (by omega):(map zA1 n.s)[s]? = some (zA1 (n.s.getD s []))) an)<|zAn 2<|S_a [(1,.v (I (↑(m+1-1):Int)))] (ap ((zBY (by omega) (by omega)):I (IntKind.i64.wrap ((↑(m+1):Int)-1))=I (↑(m+1-1):Int)) an)<|S_a [(2,.v (I ((n.s.getD s []).getD m 0)))] (ap (zBi (0) (by omega):(map I (n.s.getD s []))[m]? = some (I ((n.s.getD s []).getD m 0))) an)<|zAn 4<|S_a [(2,.v (zA1 (n.s.getD s [])))] (ap (zBi [] (by omega):(map zA1 n.s)[s]? = some (zA1 (n.s.getD s []))) an)<|zAn 2<|S_a [(2,.v (I ((n.s.getD s []).getD (m+1) 0)))] (ap (zBi (0) (by omega):(map I (n.s.getD s []))[m+1]? = some (I ((n.s.getD s []).getD (m+1) 0))) an)<|S_g 2<|zB2 ((n.s.getD s []).getD m 0>=(n.s.getD s []).getD (m+1) 0) (fun k0=>(zAh 1<|zAk<|E_a [] an (I 4) [] ?_ rfl)) (fun k0=>(zAf<|zAb<|zAn 1<|S_a [(1,.v (I (↑(m+1+1):Int)))] (ap ((zBY (by omega) (by omega)):I (IntKind.i64.wrap ((↑(m+1):Int)+1))=I (↑(m+1+1):Int)) an)<|S_g 1 ?_))
   ·rw[zXz hC hE hF yB je k0]
   ·exact rnd (m+1) ⟨.inr (by omega),jg (by omega)⟩ (by omega)
  ·have yS:=ya (zZs fun j hj=>hb j (by omega));clear hb ya;refine zAc<|zAl 4<|S_a [(2,.v (zA1 (n.s.getD s [])))] (ap (zBi [] (by omega):(map zA1 n.s)[s]? = some (zA1 (n.s.getD s []))) an)<|zAn 1<|S_a [(0,.n ((n.s.getD s []).length))] (ap (lnS I (n.s.getD s [])) an)<|S_g 1<|zAu ((↑(m+1):Int)<(↑(n.s.getD s []).length:Int)) (by omega)<|zAq 20<|zAb<|zAn 1<|S_i s<|S_g 1 ?_
   exact rnd (s+1) ⟨by omega,yS⟩ (by omega)
 have hG:(n.s.all fun x=>zDx x)=true:=zJ8 (d:=[]) fun i hi=>ha i (by omega);have hR:=zZk hC hE hF hG;clear ha;refine zAc<|zAl 3<|S_a [(0,.n n.s.length)] (ap (lnS zA1 n.s) an)<|S_g 1<|zAu ((s:Int)<(n.s.length:Int)) (by omega)<|zAq 18<|zAh 1<|zAk<|E_a [] an (I 0) [] (by simp[*]) rfl
end Go.Eng
set_option maxRecDepth 10000
set_option maxHeartbeats 4000000
namespace Go.Eng
open Go Go.Proofs
theorem f39(n:Nw)(cs:LP)(hs:Small n)(hl:cs.length<1000000):FG 39 [nwV n,prs cs] (I (zDG n cs)):=by
 have h2:=hs.hn;have h3:=hs.hs;refine zAe Tryz.f39 ?_;by_cases he:zDg n=0
 ·have hn:=zVg he;refine zAh 2<|zAc<|zAl 1<|S_a [(6,.ret (I (zDg n)) [])] (ap (f117 n (by omega)) an)<|S_g 1<|zAh 2<|zEs (zDg n=0) (by omega)<|zAf<|zAc<|zAl 1<|S_a [(0,.n cs.length)] (ap (lnS prV cs) an)<|S_g 1<|zB2 ((cs.length:Int)>16) (fun k0=>(zAh 1<|zAk<|E_a [] an (I 2) [] ?_ rfl)) (fun k0=>(zAf<|zAc<|zAh 1<|zAd 0 ?_))
  ·simp only[zDG,he,k0,if_true]
  have hx:zDG n cs=if (!cs.all fun c=>zHK n c)=true then 1 else 0:=by simp only[zDG,he,k0,if_true,if_false]
  rw[hx];refine zAo (fun i=>i<=cs.length/\∀ j,j<i->zHK n (cs.getD j d0)=true) (fun(i:Nat)=>[(6,I (i:Nat))]) (fun i=>cs.length-i) (0:Nat) ⟨bG _,fun j hj=>absurd hj (bH j)⟩ fun i ⟨hi,ha⟩=>?_;by_cases yB:i<cs.length
  ·have ya:=zGI ha;clear ha;refine zAc<|zAl 2<|S_a [(0,.n cs.length)] (ap (lnS prV cs) an)<|S_g 1<|zAs ((i:Int)<(cs.length:Int)) (by omega)<|zAf<|zAc<|zAd 1<|zAl 2<|S_a [(2,.v (prV (cs.getD i d0)))] (ap (zBi d0 (by omega):(map prV cs)[i]? = some (prV (cs.getD i d0))) an)<|zAn 4<|S_a [(0,.n n.n.length)] (ap (lnS ntV n.n) an)<|S_a [(1,.v (I ((n.n.length:Int)-1)))] (ap ((zBY rfl (by omega)):I (IntKind.i64.wrap ((n.n.length:Int)-1))=I ((n.n.length:Int)-1)) an)<|S_a [(10,.ret (bool !inB (cs.getD i d0).fst 0 ((n.n.length:Int)-1)) [])] (ap (f111 ((cs.getD i d0).fst) (0) ((n.n.length:Int)-1)) an)<|zAn 1<|zEq 31 (!inB (cs.getD i d0).fst 0 ((n.n.length:Int)-1)) (fun k1=>(S_g 11<|zBD<|zAh 1<|zAk<|E_a [] an (I 1) [] ?_ rfl)) (fun k1=>(zAn 2<|S_a [(2,.v (prV (cs.getD i d0)))] (ap (zBi d0 (by omega):(map prV cs)[i]? = some (prV (cs.getD i d0))) an)<|zAn 4<|S_a [(0,.n n.s.length)] (ap (lnS zA1 n.s) an)<|S_a [(1,.v (I ((n.s.length:Int)-1)))] (ap ((zBY rfl (by omega)):I (IntKind.i64.wrap ((n.s.length:Int)-1))=I ((n.s.length:Int)-1)) an)<|S_a [(10,.ret (bool !inB (cs.getD i d0).snd 0 ((n.s.length:Int)-1)) [])] (ap (f111 ((cs.getD i d0).snd) (0) ((n.s.length:Int)-1)) an)<|S_g 1<|zDw (!inB (cs.getD i d0).snd 0 ((n.s.length:Int)-1)) (fun k2=>(zAh 1<|zAk<|E_a [] an (I 1) [] ?_ rfl)) (fun k2=>(zAf<|zAb<|zAn 1<|S_i i<|S_g 1 ?_))))
   ·rw[zIB (d:=d0) yB (by simp only[zHK,ntt k1,di])];rfl
   ·rw[zIB (d:=d0) yB (by simp only[zHK,ntt k2,dC])];rfl
   ·exact rnd (i+1) ⟨by omega,ya (by simp only[zHK,ntf k1,ntf k2,ci])⟩ (by omega)
  have hA:(cs.all fun c=>zHK n c)=true:=zJ8 fun i hi=>ha i (by omega);clear ha;rw[hA];refine zAc<|zAl 2<|S_a [(0,.n cs.length)] (ap (lnS prV cs) an)<|S_g 1<|zAu ((i:Int)<(cs.length:Int)) (by omega)<|zAq 0<|zAh 1<|zAk E_0
 ·refine zAh 2<|zAc<|zAl 1<|S_a [(6,.ret (I (zDg n)) [])] (ap (f117 n (by omega)) an)<|S_g 1<|zAh 2<|zCq (zDg n=0) (by omega)<|zAh 2<|zAk<|E_a [] an (I (zDg n)) [] ?_ rfl
  simp only[zDG,he,if_false]
theorem f93(n:Nw)(cs:LP)(e:Int)(hs:Small n)(hl:cs.length<1000000):FG 93 [nwV n,prs cs,I e] (I (zCf n cs e)):=by
 refine zAe Tryz.f93 ?_;by_cases he:zDG n cs=0
 ·refine zAh 2<|zAc<|zAl 2<|S_a [(8,.ret (I (zDG n cs)) [])] (ap (f39 n cs (by omega) (by omega)) an)<|S_g 1<|zAh 2<|zEs (zDG n cs=0) (by omega)<|zAf<|zAc<|zAl 1<|S_a [(10,.ret (bool !inB e 0 12) [])] (ap (f111 e (0) (12)) an)<|zAR<|zDw (!inB e 0 12) (fun k0=>(zAh 1<|zAk<|E_a [] an (I 3) [] ?_ rfl)) (fun k0=>(zAf<|zAh 1<|zAk<|E_a [] an (I 0) [] ?_ rfl))
  ·simp only[zCf,he,ntt k0,if_true];rfl
  ·simp only[zCf,he,ntf k0,if_true]
 ·refine zAh 2<|zAc<|zAl 2<|S_a [(8,.ret (I (zDG n cs)) [])] (ap (f39 n cs (by omega) (by omega)) an)<|S_g 1<|zAh 2<|zCq (zDG n cs=0) (by omega)<|zAh 2<|zAk<|E_a [] an (I (zDG n cs)) [] ?_ rfl
  simp only[zCf,he,if_false]
theorem f23_1(n:Nw)(cs:LP)(e:Int)(ho:EvOk n cs e):FG 23 [nwV n,prs cs,I e] (.tup [.own 2 ((zAI n (zAM n cs e.toNat)).map prV),I 0]):=by
 have hc:=ho.cr;have jk:=hc.w;have hn:=hc.nw;have jl:=hn.small;have he:=ho.ev;have jH:=ho.err;have hZ:=hc.len;have kM:∃ w,RelK n (zDz n cs e.toNat) w:=⟨_,zEQ jk _⟩;rw[<- zTT hn (zEQ jk e.toNat)];refine zAe Tryz.f23 ?_;refine zAh 3<|zAc<|zAl 3<|S_a [(10,.ret (I (zCf n cs e)) [])] (ap (f93 n cs e (by omega) (by omega)) an)<|S_g 1<|zAh 2<|zEs (zCf n cs e=0) (by omega)<|zAf<|zAl 4<|S_a [(10,.ret (own 1 (map lsB (zDz n cs e.toNat))) [])] (ap (f95 n cs e (by omega) (by omega)) an)<|S_a [(5,.ob),(0,.v (sl (map bls (zDz n cs e.toNat)))),(2,.ret (own 2 (map prV (gpN n (zDz n cs e.toNat) n.h.toNat))) []),(1,.yes)] (ap (blz (map lsB (zDz n cs e.toNat)))<|ap (frC lsB bls (zDz n cs e.toNat))<|ap (f94 n (zDz n cs e.toNat) (by omega) (by omega))<|ap ((by exact zBf _):(own 2 (map prV (gpN n (zDz n cs e.toNat) n.h.toNat))).free=true) an)<|S_g 2<|zAk<|E_z [(1,.yes),(1,.v (own 2 (map prV (gpN n (zDz n cs e.toNat) n.h.toNat))))] (ap (blz (map prV (gpN n (zDz n cs e.toNat) n.h.toNat)))<|ap ((zAK zAL):own 2 (take (map prV (gpN n (zDz n cs e.toNat) n.h.toNat)).length (drop 0 (map prV (gpN n (zDz n cs e.toNat) n.h.toNat))))=own 2 (map prV (gpN n (zDz n cs e.toNat) n.h.toNat))) an)
theorem f23_2(n:Nw)(cs:LP)(e:Int)(hs:Small n)(hl:cs.length<1000000)(ho:¬ zCf n cs e=0):FG 23 [nwV n,prs cs,I e] (.tup [.own 2 [],I (zCf n cs e)]):=by
 refine zAe Tryz.f23 ?_;refine zAh 3<|zAc<|zAl 3<|S_a [(10,.ret (I (zCf n cs e)) [])] (ap (f93 n cs e (by omega) (by omega)) an)<|S_g 1<|zAh 2<|zCq (zCf n cs e=0) (by omega)<|zAh 3<|zAk E_0
end Go.Eng
set_option maxRecDepth 10000
set_option maxHeartbeats 4000000
namespace Go.Eng
open Go Go.Proofs
theorem f190(n:Nw)(x:Nat)(ho:NwOk n)(hx:x<n.n.length):FG 190 [nwV n,I x] (I ((zAx n).getD x 0)):=by
 have kN:=ho.nl;obtain⟨l,ul,v6,hl3,hl4,hl5⟩:=zBX ho hx;refine zAe Tryz.f190 ?_;refine zAh 2<|zAc<|zAd 0 ?_
 refine zAo (fun(y:Int)=>∃ m:Nat,y=m/\m<n.n.length/\chn n m x) (fun y=>[(1,I y)]) (fun y=>n.n.length-y.toNat) (x:Int) ⟨x,rfl,hx,rfl⟩ fun y ⟨m,hy,hm,hc⟩=>?_;subst hy;rcases zHy ho hm with⟨g1,g2⟩|⟨k,g1,g2,g3,g4,_⟩
 ·have hml:(zAx n).getD x 0=m:=by
   have h1:=g2 l v6 (by unfold chn at *;omega);have h2:=hl5 m hm hc;omega
  rw[hml];clear hl5 g2;refine zAc<|zAl 2<|S_a [(8,.ret (I (zE7 n (m:Int))) [])] (ap (f143 n ((m:Int)) (by first|omega|(simp<;>omega))) an)<|S_g 1<|zAu (zE7 n (m:Int)>=0) (by omega)<|zAq 0<|zAh 2<|zAk E_0
 ·clear hl5;refine zAc<|zAl 2<|S_a [(8,.ret (I (zE7 n (m:Int))) [])] (ap (f143 n ((m:Int)) (by first|omega|(simp<;>omega))) an)<|S_g 1<|zAs (zE7 n (m:Int)>=0) (by omega)<|zAf<|zAd 1<|zAb<|zAn 2<|S_a [(8,.ret (I (zE7 n (m:Int))) [])] (ap (f143 n ((m:Int)) (by first|omega|(simp<;>omega))) an)<|S_g 1 ?_
  exact rnd (zE7 n m) ⟨k,g1,g3,by unfold chn at *;omega⟩ (by simp only[g1];omega)
theorem f72(n:Nw)(cs ext:LP)(e:Int)(ho:CrW n (cs++ext))(ul:cs.length<=100)(v6:ext.length<=1000)(he:0<=e/\e<=1000):FG 72 [nwV n,prs cs,I e,prs ext] (.bool (decide ((zAI n (zAM n (cs++ext) e.toNat)).length=0))):=by
 have hn:=ho.nw;have kM:∃ w,RelK n (zDz n (cs++ext) e.toNat) w:=⟨_,zEQ ho _⟩;rw[<- zTT hn (zEQ ho e.toNat)];refine zAe Tryz.f72 ?_;refine zAh 2<|zAl 4<|S_a [(0,.ob),(0,.ob),(0,.ob),(3,.ob)] (ap ((by exact all_map _):((map prV cs).all fun x=>x.plain)=true)<|ap ((by exact all_map _):((map prV cs).all fun y=>y.cells.length.beq ((fun x=>x.size) Tryz.prog.types[73])&&y.cells.all fun q=>q.oneCell)=true)<|ap ((by exact dc.2 (zDU _)):(zBq (map prV cs)).isEmpty=true)<|ap ((by exact zAQ (by simp only[bf,zzLn,zAJ]<;>omega)):(0+(map prV cs).length).ble zAJ=true) an)<|zAn 1<|S_a [(0,.ob),(0,.ob),(0,.ob),(2,.ob),(0,.ob),(0,.yes),(2,.v (own 2 (map prV (cs++ext))))] (ap ((by exact all_map _):((map prV ext).all fun x=>x.plain)=true)<|ap ((by exact all_map _):((map prV ext).all fun y=>y.cells.length.beq ((fun x=>x.size) Tryz.prog.types[73])&&y.cells.all fun q=>q.oneCell)=true)<|ap ((by exact dc.2 (zDU _)):(zBq (map prV ext)).isEmpty=true)<|ap (blz ([]++map prV cs))<|ap ((by exact zAQ (by simp only[bf,zzLn,zAJ]<;>omega)):(([]++map prV cs).length+(map prV ext).length).ble zAJ=true)<|ap ((by exact zA7 (by simp<;>omega)):(0+([]++map prV cs).length).beq ([]++map prV cs).length=true)<|ap ((by simp):own 2 ([]++map prV cs++map prV ext)=own 2 (map prV (cs++ext))) an)<|zAn 1<|S_a [(5,.ob),(0,.v (prs (cs++ext))),(4,.ret (own 1 (map lsB (zDz n (cs++ext) e.toNat))) []),(1,.yes)] (ap (blz (map prV (cs++ext)))<|ap (frT prV (cs++ext))<|ap (f95 n (cs++ext) e (by omega) (by omega))<|ap (?_:(own 1 (map lsB (zDz n (cs++ext) e.toNat))).free=true) an)<|S_a [(5,.ob),(0,.v (sl (map bls (zDz n (cs++ext) e.toNat)))),(2,.ret (own 2 (map prV (gpN n (zDz n (cs++ext) e.toNat) n.h.toNat))) []),(1,.yes)] (ap (blz (map lsB (zDz n (cs++ext) e.toNat)))<|ap (frC lsB bls (zDz n (cs++ext) e.toNat))<|ap (f94 n (zDz n (cs++ext) e.toNat) (by omega) (by omega))<|ap ((by exact zBf _):(own 2 (map prV (gpN n (zDz n (cs++ext) e.toNat) n.h.toNat))).free=true) an)<|S_a [(0,.n ((gpN n (zDz n (cs++ext) e.toNat) n.h.toNat).length))] (ap (lnS prV (gpN n (zDz n (cs++ext) e.toNat) n.h.toNat)) an)<|S_g 2<|zAk<|E_a [] an (bool ((↑(gpN n (zDz n (cs++ext) e.toNat) n.h.toNat).length:Int)==0)) [] ?_ rfl
 ·exact zEW _
 ·congr 1;rw[cA,beq_iff_eq,decide_eq_true_eq];omega
end Go.Eng
set_option maxRecDepth 10000
set_option maxHeartbeats 4000000
namespace Go.Eng
open Go Go.Proofs
def zIC(st:LI)(set:Nat)(k:Nat):LI:=(range k).foldl (fun l j=>if set / 2 ^ j % 2=1 then l++[st.getD j 0] else l) []
theorem zEt{st:LI}{set k:Nat}:zIC st set (k+1)=if set / 2 ^ k % 2=1 then zIC st set k++[st.getD k 0] else zIC st set k:=by
 simp only[zIC,bV,cv,bY,cB]
theorem zI1{st:LI}{set:Nat}:∀ k,(zIC st set k).length<=k
 |0=>by simp[zIC]|k+1=>by
  have:=zI1 (st:=st) (set:=set) k;rw[zEt];split
  ·simp;omega
  ·omega
theorem zIZ{st:LI}{set:Nat}{x:Int}:∀ k,k<=st.length->x∈zIC st set k->x∈st
 |0,_,h=>by simp[zIC] at h
 | k + 1,hk,h=>by
  rw[zEt] at h;split at h
  ·rcases bk.1 h with h|h
   ·exact zIZ k (by omega) h
   ·rw[bw.1 h,zAp (by omega)];exact cu _
  ·exact zIZ k (by omega) h
def zJZ(la:Int)(l:LI):LP:=l.map fun s=>(la,s)
def zOT(n:Nw)(cs:LP)(e:Nat)(la:Int)(l:LI):Bool:=(zAI n (zAM n (cs++zJZ la l) e)).any fun g=>decide ((zAx n).getD g.2.toNat 0=la)
def lsF(n:Nw)(cs:LP)(e:Nat)(la:Int)(st:LI)(best:Int)(set:Nat):Int :=
 if 0<=best/\best<=(zIC st set st.length).length then best else if zOT n cs e la (zIC st set st.length)=true then best else(zIC st set st.length).length
def lsN(n:Nw)(cs:LP)(e:Nat)(la:Int)(st:LI)(k:Nat):Int:=(range k).foldl (lsF n cs e la st) (-1)
theorem zMj{n:Nw}{cs:LP}{e:Nat}{la:Int}{st:LI}{k:Nat}:lsN n cs e la st (k+1)=lsF n cs e la st (lsN n cs e la st k) k:=by
 simp only[lsN,bV,cv,bY,cB]
theorem f144(n:Nw)(cs:LP)(e la:Int)(st:LI)(ho:CrW n cs)(yO:cs.length<=16)(he:0<=e/\e<=12)(ue:0<=la/\la<n.n.length)(yD:st.length<=6)(yV:∀ s∈st,0<=s/\s<n.s.length):FG 144 [nwV n,prs cs,I e,zA1 st,I la] (I (lsN n cs e.toNat la st (2 ^ st.length))):=by
 have hn:=ho.nw;have kN:=hn.nl;refine zAe Tryz.f144 ?_;refine zAh 2<|zAh 1<|zAh 1<|zAc<|zAh 1<|zAd 0 ?_
 refine zAo (fun(s,m)=>s<=st.length/\m=((2 ^ s:Nat):Int)/\1<=m/\m<=64) (fun((s:Nat),(m:Int))=>[(12,I m),(13,I (s:Nat))]) (fun(s,_)=>st.length-s) ((0:Nat),(1:Int)) ⟨bG _,rfl,by omega,by omega⟩ fun(s,m) ⟨hs,hm,hm1,vb⟩=>?_;by_cases jE:s<st.length
 ·have hm3:2*m=((2 ^ (s+1):Nat):Int):=by rw[hm,ii];omega
  have hm4:2*m<=64:=by
   have h6:s=0\/s=1\/s=2\/s=3\/s=4\/s=5:=by omega
   rw[hm3];rcases h6 with rfl|rfl|rfl|rfl|rfl|rfl<;>decide
  clear hm;refine zAc<|zAl 2<|S_a [(0,.n st.length)] (ap (lnS I st) an)<|S_g 1<|zAs ((s:Int)<(st.length:Int)) (by omega)<|zAf<|zAc<|zAd 1<|zAb<|zAn 1<|S_a [(1,.v (I (2*m)))] (ap ((zBY rfl (by omega)):I (IntKind.i64.wrap (2*m))=I (2*m)) an)<|S_g 1<|zAb<|zAn 1<|S_i s<|S_g 1 ?_
  exact rnd (s+1,2*m) ⟨by omega,hm3,by omega,hm4⟩ (by simp only;omega)
 ·have e1 : s=st.length:=by omega
  subst e1;obtain⟨S,hS⟩:∃ S:Nat,2 ^ st.length=S:=⟨_,rfl⟩;rw[hS] at hm ⊢;clear jE;refine zAc<|zAl 2<|S_a [(0,.n st.length)] (ap (lnS I st) an)<|S_g 1<|zAu ((st.length:Int)<(st.length:Int)) (by omega)<|zAq 0<|zAc<|zAh 1<|zAd 2 ?_
  refine zAo (fun(set,best)=>set<=S/\best=lsN n cs e.toNat la st set/\(-1<=best/\best<=100)) (fun((set:Nat),(best:Int))=>[(11,I best),(14,I (set:Nat))]) (fun(set,_)=>S-set) ((0:Nat),(-1:Int)) ⟨bG _,by simp[lsN],by omega,by omega⟩ fun(set,best) ⟨yn,hb,jR⟩=>?_;by_cases jE:set<S
  ·have yF:=zMj (n:=n) (cs:=cs) (e:=e.toNat) (la:=la) (st:=st) (k:=set);rw[<- hb] at yF;clear hb;have hS64:set<=64:=by omega
   refine zAc<|zAh 3<|zAs ((set:Int)<m) (by omega)<|zAf<|zAc<|zAd 3<|zAl 2<|S_a [(0,.ob),(0,.ob),(0,.ob),(3,.ob)] (ap ((by exact all_map _):((map prV cs).all fun x=>x.plain)=true)<|ap ((by exact all_map _):((map prV cs).all fun y=>y.cells.length.beq ((fun x=>x.size) Tryz.prog.types[73])&&y.cells.all fun q=>q.oneCell)=true)<|ap ((by exact dc.2 (zDU _)):(zBq (map prV cs)).isEmpty=true)<|ap ((by exact zAQ (by simp only[bf,zzLn,zAJ]<;>omega)):(0+(map prV cs).length).ble zAJ=true) an)<|S_g 1<|zAh 3<|zAc<|zAh 1<|zAd 4 ?_
   refine zAo (fun(j,l,q,k,r)=>j<=st.length/\l=zIC st set j/\q=cs++zJZ la l/\k=l.length/\r=((set / 2 ^ j:Nat):Int)) (fun((j:Nat),(l:LI),(q:LP),(k:Nat),(r:Int))=>[(15,.own 2 (q.map prV)),(16,I (k:Nat)),(17,I r),(18,I (j:Nat))]) (fun(j,_)=>st.length-j) ((0:Nat),([]:LI),cs,(0:Nat),(set:Int)) ⟨bG _,by simp[zIC],by simp[zJZ],rfl,by simp⟩ fun(j,l,q,k,r) ⟨hj,hl,hq,hk,hr⟩=>?_;have ug:l.length<=j:=by rw[hl];exact zI1 j
   have kH:q.length=cs.length+k:=by rw[hq,hk];simp[zJZ]
   have vT:0<=r/\r<=64:=by
    have:=Nat.div_le_self set (2 ^ j);rw[hr];generalize set / 2 ^ j=z at *;omega
   by_cases jN:j<st.length
   ·have yS:=zEt (st:=st) (set:=set) (k:=j);rw[<- hl] at yS;have hd:r.tdiv 2=((set / 2 ^ (j+1):Nat):Int):=by
     rw[hr,ii,<- Nat.div_div_eq_div_mul];rfl
    have hmd:r.tmod 2=((set / 2 ^ j % 2:Nat):Int):=by rw[hr];rfl
    have m5:=Int.tmod_nonneg (2:Int) vT.1;have m6:=Int.tmod_lt_of_pos r (show(0:Int)<2 by omega);have m7:0<=r.tdiv 2/\r.tdiv 2<=64:=by
     rw[hd];have:=Nat.div_le_self set (2 ^ (j+1));generalize set / 2 ^ (j+1)=z at *;omega
    have hqe:q++[(la,st.getD j 0)]=cs++zJZ la (l++[st.getD j 0]):=by rw[hq];simp[zJZ]
    have hke:k+1=(l++[st.getD j 0]).length:=by rw[hk];simp
    clear hl hr;by_cases hbit:r.tmod 2=1
    ·rw[if_pos (by omega)] at yS;clear hmd;refine zAc<|zAl 2<|S_a [(0,.n st.length)] (ap (lnS I st) an)<|S_g 1<|zAs ((j:Int)<(st.length:Int)) (by omega)<|zAf<|zAc<|zAd 5<|zAc<|zAh 3<|zAs (r.tmod 2=1) (by omega)<|zAl 1<|S_i k<|S_g 1<|zAb<|zAn 4<|S_a [(2,.v (I (st.getD j 0)))] (ap (zBi (0) (by omega):(map I st)[j]? = some (I (st.getD j 0))) an)<|zAn 3<|S_a [(4,.ob),(0,.ob),(0,.yes),(2,.v (own 2 (map prV (q++[(la,st.getD j 0)]))))] (ap (blz (map prV q))<|ap ((by exact zAQ (by simp only[bf,zzLn,zAJ]<;>omega)):((map prV q).length + [agg [I la,I (st.getD j 0)]].length).ble zAJ=true)<|ap ((by exact zA7 (by simp<;>omega)):(0+(map prV q).length).beq (map prV q).length=true)<|ap ((zAK (zBH (by kernel_rfl))):own 2 (map prV q++[agg [I la,I (st.getD j 0)]])=own 2 (map prV (q++[(la,st.getD j 0)]))) an)<|S_g 1<|zAb<|zAn 1<|S_a [(1,.v (I (r.tdiv 2)))] (ap ((zBY rfl (by omega)):I (IntKind.i64.wrap (r.tdiv 2))=I (r.tdiv 2)) an)<|S_g 1<|zAb<|zAn 1<|S_i j<|S_g 1 ?_
     exact rnd (j+1,l++[st.getD j 0],q++[(la,st.getD j 0)],k+1,r.tdiv 2) ⟨by omega,yS.symm,hqe,hke,hd⟩ (by simp only;omega)
    ·rw[if_neg (by omega)] at yS;clear hmd;refine zAc<|zAl 2<|S_a [(0,.n st.length)] (ap (lnS I st) an)<|S_g 1<|zAs ((j:Int)<(st.length:Int)) (by omega)<|zAf<|zAc<|zAd 5<|zAc<|zAh 3<|zAu (r.tmod 2=1) (by omega)<|zAf<|zAb<|zAn 1<|S_a [(1,.v (I (r.tdiv 2)))] (ap ((zBY rfl (by omega)):I (IntKind.i64.wrap (r.tdiv 2))=I (r.tdiv 2)) an)<|S_g 1<|zAb<|zAn 1<|S_i j<|S_g 1 ?_
     exact rnd (j+1,l,q,k,r.tdiv 2) ⟨by omega,yS.symm,hq,hk,hd⟩ (by simp only;omega)
   have e1:j=st.length:=by omega
   subst e1;clear hr;rw[lsF,<- hl,<- hk] at yF;by_cases gb:0<=best/\best<=k
   ·rw[if_pos gb] at yF;refine zAc<|zAl 2<|S_a [(0,.n st.length)] (ap (lnS I st) an)<|S_g 1<|zAu ((st.length:Int)<(st.length:Int)) (by omega)<|zAq 4<|zAc<|zAl 3<|zD3 63 (best>=0) (by omega) (S_g 4<|zAs ((k:Int)>=best) (by omega)<|zAq 3<|zAb<|zAn 1<|S_i set<|S_g 1 ?_)
    exact rnd (set+1,best) ⟨by omega,yF.symm,jR⟩ (by simp only;omega)
   rw[if_neg gb] at yF;have hqw:CrW n q:=⟨hn,by omega,fun c hc=>by
    rw[hq] at hc;rcases bk.1 hc with hc|hc
    ·exact ho.cs c hc
    ·obtain⟨x,hx,rfl⟩:=bQ.1 hc;have:=yV x (by rw[hl] at hx;exact zIZ _ (bi _) hx);exact⟨ue,this⟩⟩
   have kM:∃ w,RelK n (zDz n q e.toNat) w:=⟨_,zEQ hqw _⟩;have hgp:FG 94 [nwV n,knV (zDz n q e.toNat)] (.own 2 ((zAI n (zAM n q e.toNat)).map prV)):=by
    rw[<- zTT hn (zEQ hqw e.toNat)];exact f94 n (zDz n q e.toNat) hn kM
   have wB:=zCD (w:=zAM n q e.toNat) hn;have js:∀ g∈zAI n (zAM n q e.toNat),0<=g.2/\g.2<n.n.length:=fun g hg=>by
    obtain⟨h,x,h1,h2,rfl,_⟩:=zD7 hg;simp only;omega
   rw[zOT,<- hq] at yF;generalize zAI n (zAM n q e.toNat)=G at *;clear hq hl hk;by_cases gM:best>=0
   ·refine zAc<|zAl 2<|S_a [(0,.n st.length)] (ap (lnS I st) an)<|S_g 1<|zAu ((st.length:Int)<(st.length:Int)) (by omega)<|zAq 4<|zAc<|zAl 3<|zD3 63 (best>=0) (by omega) (S_g 4<|zAu ((k:Int)>=best) (by omega)<|zAf<|zAl 4<|S_a [(5,.ob),(0,.v (prs q)),(4,.ret (own 1 (map lsB (zDz n q e.toNat))) []),(1,.yes)] (ap (blz (map prV q))<|ap (frT prV q)<|ap (f95 n q e (by omega) (by omega))<|ap (?_:(own 1 (map lsB (zDz n q e.toNat))).free=true) an)<|S_a [(5,.ob),(0,.v (sl (map bls (zDz n q e.toNat)))),(2,.ret (own 2 (map prV G)) []),(1,.yes)] (ap (blz (map lsB (zDz n q e.toNat)))<|ap (frC lsB bls (zDz n q e.toNat))<|ap hgp<|ap ((by exact zBf _):(own 2 (map prV G)).free=true) an)<|S_g 1<|zAh 1<|zAc<|zAh 1<|zAd 6 ?_)
    ·exact zEW _
    refine zAo (fun(i,b)=>i<=G.length/\b=(G.take i).any fun g=>decide ((zAx n).getD g.2.toNat 0=la)) (fun((i:Nat),(b:Bool))=>[(20,.bool b),(21,I (i:Nat))]) (fun(i,_)=>G.length-i) ((0:Nat),false) ⟨bG _,rfl⟩ fun(i,b) ⟨hi,hb⟩=>?_;by_cases yB:i<G.length
    ·have hgi2:=zBt (d:=d0) js i yB;have vD:=f190 n (G.getD i d0).2.toNat hn (by omega);rw[cT hgi2.1] at vD;have ya:(G.take (i+1)).any (fun g=>decide ((zAx n).getD g.2.toNat 0=la))=(b||decide ((zAx n).getD (G.getD i d0).2.toNat 0=la)):=by
      rw[zBs (d:=d0) yB,iN,<- hb];simp
     clear yF js hb;cases b
     ·refine zAc<|zAl 2<|S_a [(0,.n G.length)] (ap (lnS prV G) an)<|S_g 1<|zAs ((i:Int)<(G.length:Int)) (by omega)<|zAf<|zAc<|zAd 7<|zAb<|zAn 5<|S_a [(2,.ob),(1,.n i)] (ap ((by exact zAt (by simp only[bf,zzLn]<;>omega)):decide (i<(map prV G).length)=true)<|ap ((by simp):some (0+i)=some i) an)<|zAn 1<|S_a [(0,.cs true ([I (G.getD i d0).snd]))] (ap (zDe (q:=own 2 (map prV G)) (xs:=map prV G) (x:=prV (G.getD i d0)) rfl (zBi d0 (by omega)):zAy 19 (own 2 (map prV G)) [] i 1 1=some (true,[I (G.getD i d0).snd])) an)<|S_a [(8,.ret (I ((zAx n).getD (G.getD i d0).snd.toNat 0)) [])] (ap vD an)<|S_g 4<|zAb<|zAn 1<|S_i i<|S_g 1 ?_
      exact rnd (i+1,decide ((zAx n).getD (G.getD i d0).2.toNat 0=la)) ⟨by omega,by rw[ya];simp⟩ (by simp only;omega)
     ·refine zAc<|zAl 2<|S_a [(0,.n G.length)] (ap (lnS prV G) an)<|S_g 1<|zAs ((i:Int)<(G.length:Int)) (by omega)<|zAf<|zAc<|zAd 7<|zAb<|S_g 13<|zAb<|zAn 1<|S_i i<|S_g 1 ?_
      exact rnd (i+1,true) ⟨by omega,by rw[ya];simp⟩ (by simp only;omega)
    ·rw[bp (by omega)] at hb;rw[<- hb] at yF;clear hb js;cases b
     ·rw[if_neg (by simp)] at yF;refine zAc<|zAl 2<|S_a [(0,.n G.length)] (ap (lnS prV G) an)<|S_g 1<|zAu ((i:Int)<(G.length:Int)) (by omega)<|zAq 6<|zAh 2<|zBD<|zAb<|S_g 2<|zAb<|zAn 1<|S_i set<|S_g 1 ?_
      exact rnd (set+1,(k:Int)) ⟨by omega,yF.symm,by omega⟩ (by simp only;omega)
     ·rw[if_pos rfl] at yF;refine zAc<|zAl 2<|S_a [(0,.n G.length)] (ap (lnS prV G) an)<|S_g 1<|zAu ((i:Int)<(G.length:Int)) (by omega)<|zAq 6<|zAh 2<|zAD<|zAf<|zAb<|zAn 1<|S_i set<|S_g 1 ?_
      exact rnd (set+1,best) ⟨by omega,yF.symm,jR⟩ (by simp only;omega)
   ·refine zAc<|zAl 2<|S_a [(0,.n st.length)] (ap (lnS I st) an)<|S_g 1<|zAu ((st.length:Int)<(st.length:Int)) (by omega)<|zAq 4<|zAc<|zAl 3<|zHx 63 (best>=0) (by omega) (S_g 4<|zAD<|zAf<|zAl 4<|S_a [(5,.ob),(0,.v (prs q)),(4,.ret (own 1 (map lsB (zDz n q e.toNat))) []),(1,.yes)] (ap (blz (map prV q))<|ap (frT prV q)<|ap (f95 n q e (by omega) (by omega))<|ap (?_:(own 1 (map lsB (zDz n q e.toNat))).free=true) an)<|S_a [(5,.ob),(0,.v (sl (map bls (zDz n q e.toNat)))),(2,.ret (own 2 (map prV G)) []),(1,.yes)] (ap (blz (map lsB (zDz n q e.toNat)))<|ap (frC lsB bls (zDz n q e.toNat))<|ap hgp<|ap ((by exact zBf _):(own 2 (map prV G)).free=true) an)<|S_g 1<|zAh 1<|zAc<|zAh 1<|zAd 6 ?_)
    ·exact zEW _
    refine zAo (fun(i,b)=>i<=G.length/\b=(G.take i).any fun g=>decide ((zAx n).getD g.2.toNat 0=la)) (fun((i:Nat),(b:Bool))=>[(20,.bool b),(21,I (i:Nat))]) (fun(i,_)=>G.length-i) ((0:Nat),false) ⟨bG _,rfl⟩ fun(i,b) ⟨hi,hb⟩=>?_;by_cases yB:i<G.length
    ·have hgi2:=zBt (d:=d0) js i yB;have vD:=f190 n (G.getD i d0).2.toNat hn (by omega);rw[cT hgi2.1] at vD;have ya:(G.take (i+1)).any (fun g=>decide ((zAx n).getD g.2.toNat 0=la))=(b||decide ((zAx n).getD (G.getD i d0).2.toNat 0=la)):=by
      rw[zBs (d:=d0) yB,iN,<- hb];simp
     clear yF js hb;cases b
     ·refine zAc<|zAl 2<|S_a [(0,.n G.length)] (ap (lnS prV G) an)<|S_g 1<|zAs ((i:Int)<(G.length:Int)) (by omega)<|zAf<|zAc<|zAd 7<|zAb<|zAn 5<|S_a [(2,.ob),(1,.n i)] (ap ((by exact zAt (by simp only[bf,zzLn]<;>omega)):decide (i<(map prV G).length)=true)<|ap ((by simp):some (0+i)=some i) an)<|zAn 1<|S_a [(0,.cs true ([I (G.getD i d0).snd]))] (ap (zDe (q:=own 2 (map prV G)) (xs:=map prV G) (x:=prV (G.getD i d0)) rfl (zBi d0 (by omega)):zAy 19 (own 2 (map prV G)) [] i 1 1=some (true,[I (G.getD i d0).snd])) an)<|S_a [(8,.ret (I ((zAx n).getD (G.getD i d0).snd.toNat 0)) [])] (ap vD an)<|S_g 4<|zAb<|zAn 1<|S_i i<|S_g 1 ?_
      exact rnd (i+1,decide ((zAx n).getD (G.getD i d0).2.toNat 0=la)) ⟨by omega,by rw[ya];simp⟩ (by simp only;omega)
     ·refine zAc<|zAl 2<|S_a [(0,.n G.length)] (ap (lnS prV G) an)<|S_g 1<|zAs ((i:Int)<(G.length:Int)) (by omega)<|zAf<|zAc<|zAd 7<|zAb<|S_g 13<|zAb<|zAn 1<|S_i i<|S_g 1 ?_
      exact rnd (i+1,true) ⟨by omega,by rw[ya];simp⟩ (by simp only;omega)
    ·rw[bp (by omega)] at hb;rw[<- hb] at yF;clear hb js;cases b
     ·rw[if_neg (by simp)] at yF;refine zAc<|zAl 2<|S_a [(0,.n G.length)] (ap (lnS prV G) an)<|S_g 1<|zAu ((i:Int)<(G.length:Int)) (by omega)<|zAq 6<|zAh 2<|zBD<|zAb<|S_g 2<|zAb<|zAn 1<|S_i set<|S_g 1 ?_
      exact rnd (set+1,(k:Int)) ⟨by omega,yF.symm,by omega⟩ (by simp only;omega)
     ·rw[if_pos rfl] at yF;refine zAc<|zAl 2<|S_a [(0,.n G.length)] (ap (lnS prV G) an)<|S_g 1<|zAu ((i:Int)<(G.length:Int)) (by omega)<|zAq 6<|zAh 2<|zAD<|zAf<|zAb<|zAn 1<|S_i set<|S_g 1 ?_
      exact rnd (set+1,best) ⟨by omega,yF.symm,jR⟩ (by simp only;omega)
  ·have e1:set=S:=by omega
   subst e1;rw[<- hb];clear hb;refine zAc<|zAh 3<|zAu ((set:Int)<m) (by omega)<|zAq 2<|zAh 2<|zAk E_0
end Go.Eng
set_option maxRecDepth 10000
set_option maxHeartbeats 4000000
namespace Go.Eng
open Go Go.Proofs
theorem zVZ{α:Type}{p:α->Bool}{l:List α}{i:Nat}{d:α}(h:i<l.length):(l.take (i+1)).any p=((l.take i).any p||p (l.getD i d)):=by
 rw[zBs (d:=d) h,iN,fD,iW,fU]
end Go.Eng
