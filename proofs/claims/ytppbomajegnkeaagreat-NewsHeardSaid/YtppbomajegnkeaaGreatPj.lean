/- Just those ye are left with an earlier notice alone that are told; who jN a notice has it by a path; and with the further cries that are told nobody is left, or gaps are told that no cry mends; for every list of numbers, evening and stands. -/
import Derived.Test.YtppbomajegnkeaaGreatPi
import Derived.Test.YtppbomajegnkeaaGreatPg
import Derived.Test.YtppbomajegnkeaaGreatPd
import Derived.Test.YtppbomajegnkeaaGreatPh
set_option linter.unusedVariables false
set_option linter.unusedSimpArgs false
set_option linter.unusedSectionVars false
set_option maxRecDepth 10000
set_option maxHeartbeats 4000000
open Nat (beq ble blt)
open List (map replicate take drop range length filter)
open Go.Eng.PV (own agg addr func sl bor tup omap bad bool int)
namespace Go.Eng
open Go Go.Proofs
theorem zRL{n:Nw}(ho:NwOk n){i j:Nat}(hi:i<n.n.length)(hj:j<n.n.length)(hc:chn n j i):(zAA n).getD j 0=(zAA n).getD i 0:=by
 obtain⟨a,a1,a2,a3,_,a5⟩:=zCC ho hi;obtain⟨b,b1,b2,b3,_,b5⟩:=zCC ho hj;rw[a1,b1];have h1:=a5 b b2 (by unfold chn at *;omega);have h2:=b5 a a2 (by unfold chn at *;omega);omega
theorem zRA{n:Nw}(ho:NwOk n){i:Nat}(hi:i<n.n.length)(hn:∀ k,k<n.n.length->(n.n.getD k d0).1≠i):(zAA n).getD i 0=i:=by
 obtain⟨a,a1,a2,a3,a4,_⟩:=zCC ho hi;rw[a1];by_cases e:a=i
 ·rw[e]
 ·obtain⟨k,_,_,h3,h4,_⟩:=zVy ho a i (by omega) a2 a3.symm;exact absurd h4 (hn k h3)
section
variable [Yo]
theorem f67(n:Nw)(ho:NwOk n):∀ (k i:Nat),i<n.n.length->n.n.length-i<=k->FG 67 [nwV n,I i] (I ((zAA n).getD i 0))
 |0,i,hi,hk=>absurd hi (by omega)
 | k + 1,i,hi,hk=>by
  have kY:=ho.nl;refine zAe Tryz.f67 ?_;refine zAj 2<|zAc<|zAn 2<|S_a [(0,.n n.n.length)] (ap (lnS ntV n.n) an)<|S_g 1<|zAg 0 ?_
  refine zAu (fun j=>j<=n.n.length/\∀ r,r<j->(n.n.getD r d0).1≠i) (fun(j:Nat)=>[(10,I (j:Nat))]) (fun j=>n.n.length-j) (0:Nat) ⟨bR _,fun r hr=>absurd hr (b8 r)⟩ fun j ⟨hj,ha⟩=>?_;by_cases y5:j<n.n.length
  ·have hon:(n.n.getD j d0).1≠i->∀ r,r<j+1->(n.n.getD r d0).1≠i:=fun h r hr=>by
    rcases bE.1 hr with h2|rfl
    ·exact ha r h2
    ·exact h
   clear ha;by_cases he:(n.n.getD j d0).1=i
   ·obtain⟨wu,hc⟩:=zXs ho y5 he;have ih:=f67 n ho k j y5 (by omega);rw[zRL ho hi y5 hc] at ih;refine zAj 1<|zAc<|zAL ((j:Int)<(n.n.length:Int)) (by omega)<|zAh<|zAc<|zAg 1<|zAn 1<|S_a [(2,.v (agg [I (n.n.getD j d0).fst,bool (n.n.getD j d0).snd]))] (ap (zBN d0 (by omega):(map ntV n.n)[j]? = some (agg [I (n.n.getD j d0).fst,bool (n.n.getD j d0).snd])) an)<|S_g 4<|zAj 4<|zAL ((n.n.getD j d0).fst=(i:Int)) (by omega)<|zAn 2<|S_a [(8,.ret (I ((zAA n).getD i 0)) [])] (ap ih an)<|S_g 1<|zAm E_0
   ·refine zAj 1<|zAc<|zAL ((j:Int)<(n.n.length:Int)) (by omega)<|zAh<|zAc<|zAg 1<|zAn 1<|S_a [(2,.v (agg [I (n.n.getD j d0).fst,bool (n.n.getD j d0).snd]))] (ap (zBN d0 (by omega):(map ntV n.n)[j]? = some (agg [I (n.n.getD j d0).fst,bool (n.n.getD j d0).snd])) an)<|S_g 4<|zAj 4<|zAS ((n.n.getD j d0).fst=(i:Int)) (by omega)<|zAh<|zAb<|S_i j<|S_g 1 ?_
    exact rnd (j+1) ⟨by omega,hon he⟩ (by omega)
  ·rw[zRA ho hi fun r hr=>ha r (by omega)];clear ha;refine zAj 1<|zAc<|zAS ((j:Int)<(n.n.length:Int)) (by omega)<|zAG 0<|zAj 2<|zAm E_0
theorem f50_ex(n:Nw)(l:LI)(a:Nat)(t most:Int)(ho:NwOk n)(h:zD8 l a)(hm:0<=most/\most<=16):∃ v h',zBM Tryz.prog zCG 50 [zQA,nwV n,I most] [zCi l a t] v h'/\∃ (cs:LP) (a':Nat) (t':Int),v = .own 2 (cs.map prV)/\h'=[zCi l a' t']/\(cs.length:Int)<=most/\(∀ c∈cs,(0<=c.1/\c.1<n.n.length)/\(0<=c.2/\c.2<n.s.length))/\zD8 l a':=by
 have kY:=ho.nl;have hs6:=ho.sl;have g1:=zCQ h;have s1:=zCR l a t most;refine zNu Tryz.f50 _ ?_;refine zAj 2<|zAj 1<|zAc<|zAn 2<|S_a [(6,.ret (I (zAy l a t most)) ([zCi l (zAN l a) (zA1 l a t)]))] (ap (f129 l a t most (by omega) (by omega)) an)<|S_g 1<|zAg 0 ?_
 have hM1:0<=zAy l a t most/\zAy l a t most<=most:=by omega
 generalize zAy l a t most=M at *;clear s1;generalize zA1 l a t=T0 at *;generalize zAN l a=A0 at *;refine zAu (fun(i,q,a,_)=>(i:Int)<=M/\q.length=i/\(∀ c∈q,(0<=c.1/\c.1<n.n.length)/\(0<=c.2/\c.2<n.s.length))/\zD8 l a) (fun((i:Nat),(q:LP),(a:Nat),(t:Int))=>[(7,.own 2 (q.map prV)),(11,I (i:Nat)),(50000000,zCi l a t)]) (fun(i,_,_,_)=>M.toNat-i) ((0:Nat),([]:LP),A0,T0) ⟨by omega,rfl,fun c hc=>absurd hc du,g1⟩ fun(i,q,a,t) ⟨hiM,wB,hq,ha⟩=>?_;by_cases yH:(i:Int)<M
 ·have g2:=zCQ ha;have g3:=zCQ g2;have s2:=zCR l a t ((n.n.length-1:Nat):Int);have s3:=zCR l (zAN l a) (zA1 l a t) ((n.s.length-1:Nat):Int);have jk:∀ c∈q++[(zAy l a t ((n.n.length-1:Nat):Int),zAy l (zAN l a) (zA1 l a t) ((n.s.length-1:Nat):Int))],(0<=c.1/\c.1<n.n.length)/\(0<=c.2/\c.2<n.s.length):=fun c hc=>by
   rcases bg.1 hc with hc|hc
   ·exact hq c hc
   ·rw[bl] at hc;subst hc;simp only;omega
  clear hq;refine zAj 1<|zAc<|zAL ((i:Int)<M) (by omega)<|zAh<|zAc<|zAg 1<|zAb<|zAp 4<|S_a [(0,.n n.n.length)] (ap (lnS ntV n.n) an)<|S_a [(1,.v (I (↑(n.n.length-1):Int)))] (ap ((zCj (by omega) (by omega)):I (IntKind.i64.wrap ((n.n.length:Int)-1))=I (↑(n.n.length-1):Int)) an)<|S_a [(6,.ret (I (zAy l a t (↑(n.n.length-1):Int))) ([zCi l (zAN l a) (zA1 l a t)]))] (ap (f129 l a t ((↑(n.n.length-1):Int)) (by omega) (by omega)) an)<|zAp 3<|S_a [(0,.n n.s.length)] (ap (lnS zBi n.s) an)<|S_a [(1,.v (I (↑(n.s.length-1):Int)))] (ap ((zCj (by omega) (by omega)):I (IntKind.i64.wrap ((n.s.length:Int)-1))=I (↑(n.s.length-1):Int)) an)<|S_a [(6,.ret (I (zAy l (zAN l a) (zA1 l a t) (↑(n.s.length-1):Int))) ([zCi l (zAN l (zAN l a)) (zA1 l (zAN l a) (zA1 l a t))]))] (ap (f129 l (zAN l a) (zA1 l a t) ((↑(n.s.length-1):Int)) (by omega) (by omega)) an)<|zAp 2<|S_a [(4,.ob),(0,.ob),(0,.yes),(2,.v (own 2 (map prV (q++[(zAy l a t (↑(n.n.length-1):Int),zAy l (zAN l a) (zA1 l a t) (↑(n.s.length-1):Int))]))))] (ap (blz (map prV q))<|ap ((by exact zAP (by simp only[be,zzLn,zAJ]<;>omega)):((map prV q).length + [agg [I (zAy l a t (↑(n.n.length-1):Int)),I (zAy l (zAN l a) (zA1 l a t) (↑(n.s.length-1):Int))]].length).ble zAJ=true)<|ap ((by exact zBj (by simp<;>omega)):(0+(map prV q).length).beq (map prV q).length=true)<|ap ((zAQ (zBF (by kernel_rfl))):own 2 (map prV q++[agg [I (zAy l a t (↑(n.n.length-1):Int)),I (zAy l (zAN l a) (zA1 l a t) (↑(n.s.length-1):Int))]])=own 2 (map prV (q++[(zAy l a t (↑(n.n.length-1):Int),zAy l (zAN l a) (zA1 l a t) (↑(n.s.length-1):Int))]))) an)<|S_g 1<|zAb<|S_i i<|S_g 1 ?_
  exact rnd (i+1,q++[(zAy l a t ((n.n.length-1:Nat):Int),zAy l (zAN l a) (zA1 l a t) ((n.s.length-1:Nat):Int))],zAN l (zAN l a),zA1 l (zAN l a) (zA1 l a t)) ⟨by omega,by rw[bA,wB];rfl,jk,g3⟩ (by simp only;omega)
 ·refine zAj 1<|zAc<|zAS ((i:Int)<M) (by omega)<|zAG 0<|zAn 1<|S_a [(2,.yes)] (ap ((by exact zBj (by simp<;>omega)):(beq 0 0&&(map prV q).length.beq (map prV q).length)=true) an)<|zA6<|zAm<|E_q [(1,.yes),(1,.v (own 2 (map prV q)))] (ap (blz (map prV q))<|ap ((zAQ zAW):own 2 (take (map prV q).length (drop 0 (map prV q)))=own 2 (map prV q)) an) (own 2 (map prV q)) ([(agg [sl (map u8 l),I (a:Int),int IntKind.u32 t]).box]) ?_
  exact⟨q,a,t,rfl,rfl,by omega,hq,ha⟩
end
end Go.Eng
set_option maxRecDepth 10000
set_option maxHeartbeats 4000000
namespace Go.Eng
open Go Go.Proofs
def zTc(n:Nw)(c:Int×Int):Bool:=decide (c.1<0)||(decide (c.1>=n.n.length)||(decide (c.2<0)||decide (c.2>=n.s.length)))
theorem f160(n:Nw)(ho:NwOk n)(c:Int×Int):FG 160 [prV c,.ref (nwV n)] (.bool (zTc n c)):=by
 refine zAe Tryz.f160 ?_;refine zAj 2<|zAn 4<|zJ5 7 (c.fst<0) (fun k0=>(S_g 21<|zAm<|E_a [] an (bool true) [] ?_ rfl)) (fun k0=>(zAp 4<|S_a [(0,.n n.n.length)] (ap (lnS ntV n.n) an)<|zAp 3<|zJ5 15 (c.fst>=(n.n.length:Int)) (fun k1=>(S_g 13<|zAm<|E_a [] an (bool true) [] ?_ rfl)) (fun k1=>(zAp 5<|zJ5 20 (c.snd<0) (fun k2=>(S_g 8<|zAm<|E_a [] an (bool true) [] ?_ rfl)) (fun k2=>(zAp 4<|S_a [(0,.n n.s.length)] (ap (lnS zBi n.s) an)<|S_g 3<|zAm<|E_a [] an (bool (decide (c.snd>=(n.s.length:Int)))) [] ?_ rfl))))))
 all_goals simp[zTc, *]
theorem f203_10(n:Nw)(ho:NwOk n)(l:LP)(hl:l.length<4294967296):FG 203 [.sl (l.map prV),.func 160 [] [.ref (nwV n)]] (I (zDI (fun x=>zTc n x) l)):=by
 refine zAe Tryz.f203 ?_;refine zAj 1<|zAc<|zAn 1<|S_a [(0,.n l.length)] (ap (lnS prV l) an)<|S_g 1<|zAg 0 ?_
 refine zAu (fun i=>i<=l.length/\∀ j,j<i->(fun x=>zTc n x) (l.getD j d0)=false) (fun i=>[(8,I (i:Nat))]) (fun i=>l.length-i) (0:Nat) (by simp) fun i ⟨hi,ha⟩=>?_;refine zAj 1<|zAc<|zC4 ((i:Int)<(l.length:Int)) (fun k0=>(zAh<|zAc<|zAg 1<|zAj 2<|zAn 3<|S_a [(2,.v (prV (l.getD i d0)))] (ap (zBN d0 (by omega):(map prV l)[i]? = some (prV (l.getD i d0))) an)<|zAp 1<|S_a [(7,.ret (bool (zTc n (l.getD i d0))) [])] (ap (f160 n (by omega) (l.getD i d0)) an)<|zA6<|zEE (zTc n (l.getD i d0)) (fun k1=>(zAj 2<|zAm<|E_a [] an (I (i:Int)) [] ?_ rfl)) (fun k1=>(zAh<|zAb<|S_i i<|S_g 1 ?_)))) (fun k0=>(zAG 0<|zAj 1<|zAm<|E_a [] an (I (-1)) [] ?_ rfl))
 ·rw[zBK (i:=i) (by omega) (fun j hj=>by rw[<- zAr (d:=d0)];exact ha j hj) (by rw[<- zAr (d:=d0)];first|assumption|exact decide_eq_true ‹_›|(simp only[bD,decide_eq_false_iff_not];assumption))]
 ·refine⟨i+1,⟨by omega,fun j hj=>?_⟩,by omega,by kernel_rfl,by kernel_rfl⟩;rcases bE.1 hj with h|rfl
  ·exact ha j h
  ·first|assumption|exact decide_eq_false ‹_›|(simp only[bB,decide_eq_true_eq];first|assumption|(apply cJ;assumption))
 ·rw[zBV fun j hj=>by rw[<- zAr (d:=d0)];exact ha j (by omega)]
theorem f159_10(n:Nw)(ho:NwOk n)(l:LP)(hl:l.length<4294967296):FG 159 [.sl (l.map prV),.func 160 [] [.ref (nwV n)]] (.bool (l.any (fun x=>zTc n x))):=by
 refine zAe Tryz.f159 ?_;refine zAj 1<|zAn 2<|S_a [(7,.ret (I (zDI (fun x=>zTc n x) l)) [])] (ap (f203_10 n (by omega) l (by omega)) an)<|S_g 2<|zAm<|E_a [] an (bool (decide (zDI (fun x=>zTc n x) l>=0))) [] ?_ rfl
 rw[zDA]
theorem f79(n:Nw)(ho:NwOk n)(l:LP)(hl:l.length<1000000)(hr:∀ c∈l,(0<=c.1/\c.1<n.n.length)/\(0<=c.2/\c.2<n.s.length)):FG 79 [nwV n,prs l] (.bool true):=by
 have hc:=f159_10 n ho l (by omega);have h0:(l.any fun x=>zTc n x)=false:=by
  rw[cV];intro c hc;have:=hr c hc;simp only[zTc,bV,decide_eq_true_eq];omega
 rw[h0] at hc;refine zAe Tryz.f79 ?_;refine zAj 2<|zAn 2<|S_a [(13,.ret (bool false) [])] (ap hc an)<|S_g 2<|zAm E_0
def zT6(n:Nw)(x:Int):Bool:=decide ((zAA n).getD x.toNat 0≠x)
theorem f80(n:Nw)(ho:NwOk n)(x:Int)(hx:0<=x/\x<n.n.length):FG 80 [I x,.ref (nwV n)] (.bool (zT6 n x)):=by
 have hl:=f67 n ho n.n.length x.toNat (by omega) (by omega);rw[dK hx.1] at hl;refine zAe Tryz.f80 ?_;refine zAj 1<|zAn 2<|S_a [(8,.ret (I ((zAA n).getD x.toNat 0)) [])] (ap hl an)<|S_g 3<|zAm<|E_a [] an (bool ((zAA n).getD x.toNat 0 != x)) [] ?_ rfl
 congr 1;unfold zT6;rw[cZ];simp
theorem f131_11(n:Nw)(ho:NwOk n)(l:List (Int))(hl:l.length<4294967296)(hr:∀ x∈l,(fun z:Int=>0<=z/\z<n.n.length) x):FG 131 [.sl (l.map I),.func 80 [] [.ref (nwV n)]] (I (zDI (fun x=>zT6 n x) l)):=by
 refine zAe Tryz.f131 ?_;refine zAj 1<|zAc<|zAn 1<|S_a [(0,.n l.length)] (ap (lnS I l) an)<|S_g 1<|zAg 0 ?_
 refine zAu (fun i=>i<=l.length/\∀ j,j<i->(fun x=>zT6 n x) (l.getD j 0)=false) (fun i=>[(8,I (i:Nat))]) (fun i=>l.length-i) (0:Nat) (by simp) fun i ⟨hi,ha⟩=>?_;by_cases yH:i<l.length
 ·have ud:=zBP (d:=0) hr i yH;refine zAj 1<|zAc<|zAL ((i:Int)<(l.length:Int)) (by omega)<|zAh<|zAc<|zAg 1<|zAj 2<|zAn 3<|S_a [(2,.v (I (l.getD i 0)))] (ap (zBN (0) (by omega):(map I l)[i]? = some (I (l.getD i 0))) an)<|zAp 1<|S_a [(7,.ret (bool (zT6 n (l.getD i 0))) [])] (ap (f80 n (by omega) (l.getD i 0) (by omega)) an)<|zA6<|zEE (zT6 n (l.getD i 0)) (fun k0=>(zAj 2<|zAm<|E_a [] an (I (i:Int)) [] ?_ rfl)) (fun k0=>(zAh<|zAb<|S_i i<|S_g 1 ?_))
  ·rw[zBK (i:=i) yH (fun j hj=>by rw[<- zAr (d:=0)];exact ha j hj) (by rw[<- zAr (d:=0)];first|assumption|exact decide_eq_true ‹_›)]
  ·refine⟨i+1,⟨by omega,fun j hj=>?_⟩,by omega,by kernel_rfl,by kernel_rfl⟩;rcases bE.1 hj with h|rfl
   ·exact ha j h
   ·first|assumption|exact decide_eq_false ‹_›|(simp only[bB,decide_eq_true_eq];assumption)
 ·refine zAj 1<|zAc<|zAS ((i:Int)<(l.length:Int)) (by omega)<|zAG 0<|zAj 1<|zAm<|E_a [] an (I (-1)) [] ?_ rfl
  rw[zBV fun j hj=>by rw[<- zAr (d:=0)];exact ha j (by omega)]
theorem f52_11(n:Nw)(ho:NwOk n)(l:List (Int))(hl:l.length<4294967296)(hr:∀ x∈l,(fun z:Int=>0<=z/\z<n.n.length) x):FG 52 [.sl (l.map I),.func 80 [] [.ref (nwV n)]] (.bool (l.any (fun x=>zT6 n x))):=by
 refine zAe Tryz.f52 ?_;refine zAj 1<|zAn 2<|S_a [(7,.ret (I (zDI (fun x=>zT6 n x) l)) [])] (ap (f131_11 n (by omega) l (by omega) (by omega)) an)<|S_g 2<|zAm<|E_a [] an (bool (decide (zDI (fun x=>zT6 n x) l>=0))) [] ?_ rfl
 rw[zDA]
end Go.Eng
set_option maxRecDepth 10000
set_option maxHeartbeats 4000000
namespace Go.Eng
open Go Go.Proofs
section
variable [Yo]
theorem f56(l:LI)(hl:l.length<=4294967296):zBM Tryz.prog zCG 56 [.bor 50000000 [] 1 0 l.length] [.own 1 (l.map I)] (.tup []) [.own 1 ((zCM l).map I)]:=zQP (fn:=Tryz.f56) l hl
end
def zY7(x:Int):Bool:=decide (x≠-1)
theorem zSc{p:Int->Bool}{l:LI}{i:Nat}(hi:i<l.length):(l.take (i+1)).filter p=if p (l.getD i 0)=true then(l.take i).filter p++[l.getD i 0] else(l.take i).filter p:=by
 rw[zBI (d:=0) hi,db];by_cases hp:p (l.getD i 0)=true
 ·rw[if_pos hp];simp only[fp,hp,if_true,fW]
 ·rw[if_neg hp];simp only[fp,hp,fW,dn];simp
theorem f51_1(n:Nw)(cs:LP)(e:Int)(h:Nat)(ho:EvOk n cs e)(hh:(h:Int)<n.h):FG 51 [nwV n,prs cs,I e,I h] (.tup [.own 1 ((zEf (hld n (zAD n cs e.toNat) h) n.n.length).map I),I 0]):=by
 have hc:=ho.cr;have jr:=hc.w;have hn:=hc.nw;have he:=ho.ev;have hH:=hn.h;have hin:inB h 0 (n.h-1)=true:=by simp only[inB,bb,decide_eq_true_eq];omega
 rw[<- zVL hn (zTe jr e.toNat) (by omega)];have wx:=zBr (n:=n) (cs:=cs) e.toNat;refine zAe Tryz.f51 ?_;refine zAj 3<|zAn 3<|S_a [(10,.ret (tup [zE8 n cs,I 0]) [])] (ap (f90_1 n cs e (by omega)) an)<|S_g 5<|zAc<|zAg 0<|zAj 3<|zAB<|zAn 2<|S_a [(8,.ret (bool (inB (h:Int) 0 (n.h-1))) [])] (ap (f109 n ((h:Int)) (by omega)) an)<|S_g 2<|zEE (!inB (h:Int) 0 (n.h-1)) (fun k0=>(zAj 2<|zAm<|E_a [] an (tup [own 1 [],I 1]) [] ?_ rfl)) (fun k0=>(zAh<|zAj 1<|zAc<|zAn 2<|S_a [(7,.ret (hdV (zAD n cs e.toNat)) [])] (ap (f92 n cs e (by omega) (by omega)) an)<|zAp 1<|S_a [(2,.ob),(0,.v (agg (zAY (take 8 (drop (h*8) (zAD n cs e.toNat))) 8)))] (ap ((by exact zAl (by omega)):decide (h<10)=true)<|ap (zUd (K:=8) (c:=h*8) (by omega) (by first|rfl|exact zC0 (by kernel_rfl)|(simp;done)) (by omega) (by kernel_rfl):sub (agg (zAY (zAD n cs e.toNat) 80)) (h*(fun x=>x.size) Tryz.prog.types[128]) (some Tryz.prog.types[128].size)=some (agg (zAY (take 8 (drop (h*8) (zAD n cs e.toNat))) 8))) an)<|S_g 1<|zAg 1 ?_))
 ·rw[hin] at k0;cases k0
 generalize zAD n cs e.toNat=w at *;have wA:(zT4 w h).length=8:=by simp[zT4];omega
 refine zAu (fun(i,l)=>i<=8/\l=((zT4 w h).take i).filter zY7) (fun(i,l)=>[(12,.own 1 (l.map I)),(36,I (i:Nat))]) (fun(i,_)=>8-i) ((0:Nat),([]:LI)) ⟨by omega,rfl⟩ fun(i,l) ⟨hi,hl⟩=>?_;have gA:l.length<=i:=by rw[hl];exact bF (bU _ _) (by simp;omega)
 by_cases yH:i<8
 ·have yK:=zSc (p:=zY7) (l:=zT4 w h) (i:=i) (by omega);rw[<- hl,show(zT4 w h).getD i 0=((w.drop (h*8)).take 8).getD i 0 from rfl] at yK;clear hl;refine zAj 1<|zAc<|zAL ((i:Int)<8) (by omega)<|zAh<|zAc<|zAg 2<|zAc<|zAb<|S_a [(2,.ob),(0,.v (I ((take 8 (drop (h*8) w)).getD i 0)))] (ap ((by exact zAl (by omega)):decide (i<8)=true)<|ap (zPC (F:=take 8 (drop (h*8) w)) (m:=8) (j:=i) (by omega):sub (agg (zAY (take 8 (drop (h*8) w)) 8)) (i*(fun x=>x.size) Tryz.prog.types[3]) none=some (I ((take 8 (drop (h*8) w)).getD i 0))) an)<|S_g 1<|zAj 2<|zDZ ((take 8 (drop (h*8) w)).getD i 0 = -1) (fun k1=>(zAb<|zAp 3<|S_a [(4,.ob),(0,.ob),(0,.yes),(2,.v (own 1 (map I (l++[(take 8 (drop (h*8) w)).getD i 0]))))] (ap (blz (map I l))<|ap ((by exact zAP (by simp only[be,zzLn,zAJ]<;>omega)):((map I l).length + [I ((take 8 (drop (h*8) w)).getD i 0)].length).ble zAJ=true)<|ap ((by exact zBj (by simp<;>omega)):(0+(map I l).length).beq (map I l).length=true)<|ap ((zAQ (zBF (by kernel_rfl))):own 1 (map I l++[I ((take 8 (drop (h*8) w)).getD i 0)])=own 1 (map I (l++[(take 8 (drop (h*8) w)).getD i 0]))) an)<|S_g 1<|zAb<|S_i i<|S_g 1 ?_)) (fun k1=>(zAh<|zAb<|S_i i<|S_g 1 ?_))
  ·rw[if_pos (by simp only[zY7,decide_eq_true_eq];exact k1)] at yK;exact rnd (i+1,l++[((w.drop (h*8)).take 8).getD i 0]) ⟨by omega,yK.symm⟩ (by simp only;omega)
  ·rw[if_neg (by simp only[zY7,decide_eq_true_eq];exact fun h=>h k1)] at yK;exact rnd (i+1,l) ⟨by omega,yK.symm⟩ (by simp only;omega)
 ·rw[bz (by omega)] at hl;have yy:(zCM l).length=l.length:=zUW;rw[show zY4 w h=l from hl.symm];clear hl;refine zAj 1<|zAc<|zAS ((i:Int)<8) (by omega)<|zAG 1<|zAn 1<|S_a [(3,.vs ([bor 50000000 [] 1 0 l.length])),(0,.ret (tup []) ([own 1 (map I (zCM l))]))] (ap ((by simp) : [bor 50000000 [] 1 0 (map I l).length]=[bor 50000000 [] 1 0 l.length])<|ap (f56 l (by omega)) an)<|zA6<|zAn 1<|S_a [(2,.yes)] (ap ((by exact zBj (by simp<;>omega)):(beq 0 0&&(map I (zCM l)).length.beq (map I (zCM l)).length)=true) an)<|S_g 1<|zAm<|E_z [(1,.yes),(1,.v (own 1 (map I (zCM l))))] (ap (blz (map I (zCM l)))<|ap ((zAQ zAW):own 1 (take (map I (zCM l)).length (drop 0 (map I (zCM l))))=own 1 (map I (zCM l))) an)
end Go.Eng
set_option maxRecDepth 10000
set_option maxHeartbeats 4000000
namespace Go.Eng
open Go Go.Proofs
end Go.Eng
set_option maxRecDepth 100000
set_option maxHeartbeats 4000000
namespace Go.Eng
open Go Go.Proofs
def zDh:Nw:=⟨4,[(0,1),(1,2),(2,3)],[(-1,false),(0,true)],[[0],[0,3]]⟩
def zFJ:LP:=[(0,1),(1,0)]
def zJV:LP:=[(2,0),(3,0)]
theorem zWc:NwOk zDh:=zW2 (by decide +kernel)
theorem zKY:CrOk zDh zFJ:=zWQ (by decide +kernel)
theorem zPf:zAV zDh (zAD zDh zFJ (1:Int).toNat)=zJV:=by decide +kernel
theorem zWz:OffOk zDh zFJ 1 [0,1]:=⟨by decide +kernel,zRQ (by decide +kernel),by decide,by decide⟩
theorem zYN:zFb zDh (zAD zDh (zFJ++[(1,0)]) (1:Int).toNat) zJV=[]:=by decide +kernel
theorem zX5:zFb zDh (zAD zDh (zFJ++[(1,1)]) (1:Int).toNat) zJV=zJV:=by decide +kernel
def zZG:List (PV×PV):=[(.agg [I 1,I 0],.sl []),(.agg [I 1,I 1],.sl (zJV.map prV))]
abbrev zR0:List PV:=[.addr 50000000 [] 0 0 none,.addr 50000001 [] 0 0 none,.ref (.sl [prV (1,0),prV (1,1)]),.ref (.map [(prV (1,0),.sl []),(prV (1,1),prs zJV)]),.addr 50000002 [] 0 0 none]
abbrev zTv(b:Bool)(l:List PV):List PV:=[.box (.bool b),.box (.own 2 l),.box (.func 187 [] zR0)]
theorem zQT:zBM Tryz.prog zCG 187 (.nils 0::prs zJV::zR0) (zTv false []) (.tup []) (zTv true [prV (1,1)]):=zBM.closed 60
theorem zRM:FG 134 [zE8 zDh zFJ,.agg [zWH zDh zFJ 1 zJV],prs zJV,I 0,zBi [0,1]] (.tup [.own 2 [.agg [I 1,I 1]],.bool true]):=by
 have h0:FG 173 [.agg [I 1,I 0],.ref (zE8 zDh zFJ),.ref (prs zJV),.ref (I 1)] (.sl []):=by
  have:=f173 zDh zFJ zJV 1 (1,0) zKY.w (by decide) (by decide) (by decide) (by decide) (by decide);rw[zYN] at this;exact this
 have h1:FG 173 [.agg [I 1,I 1],.ref (zE8 zDh zFJ),.ref (prs zJV),.ref (I 1)] (.sl (zJV.map prV)):=by
  have:=f173 zDh zFJ zJV 1 (1,1) zKY.w (by decide) (by decide) (by decide) (by decide) (by decide);rw[zX5] at this;exact this
 refine zAe Tryz.f134 ?_;refine zAj 3<|zAj 3<|zAj 1<|zAc<|zAn 1<|zAp 1<|S_g 1<|zAg 0 ?_
 refine zAu (fun j=>j<=2) (fun(j:Nat)=>[(12,.box (.omap (zZG.take j))),(13,.box (.own 2 (([(1,0),(1,1)]:LP).take j |>.map prV))),(23,I (j:Nat))]) (fun j=>2-j) (0:Nat) (by omega) fun j hj=>?_;have hj3:j=0\/j=1\/j=2:=by omega
 rcases hj3 with e|e|e
 ·subst e;refine zAj 1<|zAc<|zB9<|zAh<|zAc<|zAg 1<|zAj 3<|zAj 10<|zAb<|zAp 2<|zAp 1<|zAp 6<|S_a [(9,.ret (sl []) [])] (ap h0 an)<|S_g 4<|zAb<|S_g 2 ?_
  exact rnd 1 (by omega) (by omega)
 ·subst e;refine zAj 1<|zAc<|zB9<|zAh<|zAc<|zAg 1<|zAj 3<|zAj 10<|zAb<|zAp 2<|zAp 1<|zAp 6<|S_a [(9,.ret (prs zJV) [])] (ap h1 an)<|S_g 4<|zAb<|S_g 2 ?_
  exact rnd 2 (by omega) (by omega)
 ·subst e;have y7:=zQT;refine zAj 1<|zAc<|zAB<|zSf 0 ([(0,(agg (I zDh.h::sl [prV (0,1),prV (1,2),prV (2,3)]::sl [agg [I (-1,false).fst,bool false],agg [I (0,true).fst,bool true]]::sl [sl [I 0],sl [I 0,I 3]]::sl [prV (0,1),prV (1,0)]::PV.map [(prV (pr2 (0,1)),bool true),(prV (pr2 (1,2)),bool true),(prV (pr2 (2,3)),bool true)]::(zAY (zAd zDh) 8++zAY (zAA zDh) 8))).ref),(2,sl [prV (2,0),prV (3,0)]),(3,I 0),(4,sl [I 0,I 1]),(6,(agg [func 173 [] [(agg (I zDh.h::sl [prV (0,1),prV (1,2),prV (2,3)]::sl [agg [I (-1,false).fst,bool false],agg [I (0,true).fst,bool true]]::sl [sl [I 0],sl [I 0,I 3]]::sl [prV (0,1),prV (1,0)]::PV.map [(prV (pr2 (0,1)),bool true),(prV (pr2 (1,2)),bool true),(prV (pr2 (2,3)),bool true)]::(zAY (zAd zDh) 8++zAY (zAA zDh) 8))).ref.ref,(sl [prV (2,0),prV (3,0)]).ref,(I 1).ref]]).box),(12,(PV.map [(agg [I 1,I 0],sl []),(agg [I 1,I 1],sl [prV (2,0),prV (3,0)])]).ref),(13,(sl [prV (1,0),prV (1,1)]).ref),(21,sl [I 0,I 1]),(22,I (↑[I 0,I 1].length:Int)),(23,I (↑2:Int)),(24,bool false)]) ([(0,(agg (I zDh.h::sl [prV (0,1),prV (1,2),prV (2,3)]::sl [agg [I (-1,false).fst,bool false],agg [I (0,true).fst,bool true]]::sl [sl [I 0],sl [I 0,I 3]]::sl [prV (0,1),prV (1,0)]::PV.map [(prV (pr2 (0,1)),bool true),(prV (pr2 (1,2)),bool true),(prV (pr2 (2,3)),bool true)]::(zAY (zAd zDh) 8++zAY (zAA zDh) 8))).ref),(2,sl [prV (2,0),prV (3,0)]),(3,I 0),(4,sl [I 0,I 1]),(6,(agg [func 173 [] [(agg (I zDh.h::sl [prV (0,1),prV (1,2),prV (2,3)]::sl [agg [I (-1,false).fst,bool false],agg [I (0,true).fst,bool true]]::sl [sl [I 0],sl [I 0,I 3]]::sl [prV (0,1),prV (1,0)]::PV.map [(prV (pr2 (0,1)),bool true),(prV (pr2 (1,2)),bool true),(prV (pr2 (2,3)),bool true)]::(zAY (zAd zDh) 8++zAY (zAA zDh) 8))).ref.ref,(sl [prV (2,0),prV (3,0)]).ref,(I 1).ref]]).box),(12,(PV.map [(agg [I 1,I 0],sl []),(agg [I 1,I 1],sl [prV (2,0),prV (3,0)])]).ref),(13,(sl [prV (1,0),prV (1,1)]).ref),(21,sl [I 0,I 1]),(22,I (↑[I 0,I 1].length:Int)),(23,I (↑2:Int)),(24,bool false)]) rfl<|zAj 1<|zAj 2<|zAj 1<|zAj 2<|zAn 2<|S_a [(10,.ret (tup []) (zTv true [prV (1,1)]))] (ap y7 an)<|zA6<|zAn 1<|zAp 1<|zAp 1<|S_g 1<|zAm E_0
theorem zQi:FG 57 [nwV zDh,prs zFJ,I 1,zBi [0,1]] (.tup [.own 2 [.agg [I 1,I 1]],I 0]):=by
 have ho:=f121_1 zDh zFJ 1 [0,1] zWz (by decide);rw[zPf] at ho;have kS:FG 135 [zE8 zDh zFJ,prs zJV,I 0] (.own 2 (zJV.map prV)):=by
  have:=f135 zDh zFJ zJV 0 zWc (by decide) (by decide);rwa[show ofL zDh 0 zJV=zJV from by decide +kernel] at this
 have hc:=zRM;refine zAe Tryz.f57 ?_;refine zAj 3<|zAn 4<|S_a [(12,.ret (tup [zE8 zDh zFJ,prs zJV,agg [zWH zDh zFJ 1 zJV],I 0]) [])] (ap ho an)<|S_g 10<|zAc<|zAj 2<|zAB<|zAh<|zAj 1<|zAc<|zAn 2<|zAp 1<|S_g 1<|zAg 0 ?_
 refine zAu (fun j=>j<=2) (fun(j:Nat)=>[(14,.own 2 (([(1,1)]:LP).take j |>.map prV)),(34,I (j:Nat))]) (fun j=>2-j) (0:Nat) (by omega) fun j hj=>?_;have hj3:j=0\/j=1\/j=2:=by omega
 rcases hj3 with e|e|e
 ·subst e;refine zAj 1<|zAc<|zB9<|zAh<|zAc<|zAg 1<|zAj 2<|zAc<|zAj 8<|zAB<|zAh<|zAn 5<|S_a [(9,.ret (own 2 (map prV zJV)) [])] (ap kS an)<|zAp 2<|S_a [(14,.ret (tup [own 2 [agg [I 1,I 1]],bool true]) [])] (ap hc an)<|S_g 5<|zAc<|zAj 2<|zAB<|zAh<|zAb<|S_g 4<|zAb<|S_g 2 ?_
  exact rnd 1 (by omega) (by omega)
 ·subst e;refine zAj 1<|zAc<|zB9<|zAh<|zAc<|zAg 1<|zAj 2<|zAc<|zAj 8<|zB9<|zAG 1<|zAb<|S_g 2 ?_
  exact rnd 2 (by omega) (by omega)
 ·subst e;refine zAj 1<|zAc<|zAB<|zAG 0<|zAj 3<|zAm E_0
end Go.Eng
set_option maxRecDepth 100000
set_option maxHeartbeats 4000000
namespace Go.Eng
open Go Go.Proofs
theorem zXL:FG 83 [] (.tup [nwO zDh,.own 2 (zFJ.map prV)]):=zBM.closed 20
theorem zUf:FG 22 [nwV zDh,prs zFJ,I 1] (.tup [.own 2 [.agg [I 2,I 0],.agg [I 3,I 0]],I 0]):=by
 have:=f22_1 zDh zFJ 1 (zRQ (by decide +kernel));rw[zPf] at this;exact this
theorem zOg:FG 29 [nwV zDh,prs zFJ] (.tup [I 3,I 0]):=f29_1 zDh zFJ 3 zKY (by decide) (by decide +kernel) (by decide +kernel)
theorem zUN:FG 38 [nwV zDh,prs zFJ,I 2,I 0] (.tup [.own 1 [I 3,I 2],I 0]):=by
 have:=f38_1 zDh zFJ 2 0 1 zKY (by decide) (by decide) (by decide) (by decide +kernel) (by decide +kernel);rw[show bkL zDh zFJ ((zAd zDh).getD (0:Int).toNat 0).toNat 0 1 [2]=[3,2] from by decide +kernel] at this;exact this
theorem zYB:FG 38 [nwV zDh,prs zFJ,I 1,I 0] (.tup [.own 1 [],I 6]):=f38_2 zDh zFJ 1 0 zKY (by decide) (by decide) (by decide +kernel)
theorem zRP:FG 31 [nwV zDh,prs zFJ] (.tup [I 3,I 0]):=by
 have:=f31_1 zDh zFJ zKY;rw[if_pos (show zAV zDh (zAD zDh zFJ 12)=[] from by decide +kernel),if_pos (show zAV zDh (zAD zDh zFJ 12)=[] from by decide +kernel),show zWS zDh zFJ 12=3 from by decide +kernel] at this;exact this
theorem zQ1:FG 26 [nwV zDh,prs zFJ,I 0] (.tup [.own 1 [I 3],I 0]):=by
 have:=f26_1 zDh zFJ 0 (zRQ (by decide +kernel));rw[show zHn (msl zDh (zAV zDh (zAD zDh zFJ (0:Int).toNat)))=[3] from by decide +kernel] at this;exact this
theorem zSt:FG 86 [nwV zDh] (.tup [.own 1 [],I 0]):=by
 have:=f86_1 zDh zWc;rw[show zEf (zU6 zDh) zDh.n.length=[] from by decide +kernel] at this;exact this
theorem f17:FG 17 [] (.bool true):=by
 have h1:=zXL;have h2:=zUf;have h3:=zOg;have h4:=zUN;have h5:=zYB;have h6:=zQi;have h7:=zRP;have h8:=zQ1;have h9:=zSt;have l1:FG 78 [.sl [.agg [I 2,I 0],.agg [I 3,I 0]],.sl [.agg [I 2,I 0],.agg [I 3,I 0]]] (.bool true):=f78 [(2,0),(3,0)] [(2,0),(3,0)] (by decide);have l2:FG 28 [.sl [I 3,I 2],.sl [I 3,I 2]] (.bool true):=f28 [3,2] [3,2] (by decide);have l3:FG 34 [.sl [.agg [I 1,I 1]],.sl [.agg [I 1,I 1]]] (.bool true):=f34 [(1,1)] [(1,1)] (by decide);have l4:FG 28 [.sl [I 3],.sl [I 3]] (.bool true):=f28 [3] [3] (by decide);refine zAe Tryz.f17 ?_;refine zAj 1<|zAc<|zAb<|S_a [(4,.ret (tup [nwO zDh,own 2 (map prV zFJ)]) [])] (ap h1 an)<|S_g 6<|zAn 2<|S_a [(21,.ret (tup [own 2 [agg [I 2,I 0],agg [I 3,I 0]],I 0]) [])] (ap h2 an)<|S_g 5<|zAn 2<|S_a [(19,.ret (tup [I 3,I 0]) [])] (ap h3 an)<|S_g 5<|zAn 2<|S_a [(23,.ret (tup [own 1 [I 3,I 2],I 0]) [])] (ap h4 an)<|S_g 5<|zAn 2<|S_a [(23,.ret (tup [own 1 [],I 6]) [])] (ap h5 an)<|S_g 5<|zAc<|zAn 19<|S_a [(10,.ret (bool true) [])] (ap l1 an)<|zAp 9<|S_a [(10,.ret (bool true) [])] (ap l2 an)<|S_g 2<|zAB<|zAh<|zAn 3<|S_a [(24,.ret (tup [own 2 [agg [I 1,I 1]],I 0]) [])] (ap h6 an)<|S_g 5<|zAn 2<|S_a [(19,.ret (tup [I 3,I 0]) [])] (ap h7 an)<|S_g 5<|zAn 2<|S_a [(21,.ret (tup [own 1 [I 3],I 0]) [])] (ap h8 an)<|S_g 5<|zAn 1<|S_a [(16,.ret (tup [own 1 [],I 0]) [])] (ap h9 an)<|S_g 5<|zAn 18<|S_a [(10,.ret (bool true) [])] (ap l3 an)<|zAp 8<|S_a [(10,.ret (bool true) [])] (ap l4 an)<|zAp 3<|S_g 4<|zAm E_0
end Go.Eng
set_option maxRecDepth 10000
set_option maxHeartbeats 4000000
namespace Go.Eng
open Go Go.Proofs
theorem zZv{n:Nw}{cs:LP}(h:zFK n=0)(hl:cs.length<=16)(hc:∀ c∈cs,(0<=c.1/\c.1<n.n.length)/\(0<=c.2/\c.2<n.s.length)):CrOk n cs:=by
 refine zWQ ?_;have ha:(cs.all fun c=>zKn n c)=true:=bj.2 fun c hm=>by
  have:=hc c hm;simp only[zKn,inB,bb,decide_eq_true_eq];omega
 have qR:¬ (cs.length:Int)>16:=by omega
 simp only[zQJ,h,qR,ha,if_true,if_false];rfl
theorem zZu{n:Nw}{cs:LP}{e:Int}(h:CrOk n cs)(he:0<=e/\e<=12):EvOk n cs e:=by
 refine zRQ ?_;have hi:inB e 0 12=true:=by simp only[inB,bb,decide_eq_true_eq];omega
 simp only[zQZ,h.err,hi,if_true]
end Go.Eng
set_option maxRecDepth 10000
set_option maxHeartbeats 4000000
namespace Go.Eng
open Go Go.Proofs
section
variable [Yo]
theorem f54(n:Nw)(x:Int)(ho:NwOk n)(hx:0<=x/\x<n.n.length):FG 54 [nwV n,I x] (I ((zAd n).getD x.toNat 0)):=by
 have kY:=ho.nl;refine zAe Tryz.f54 ?_;refine zAj 2<|zAc<|zAg 0 ?_
 refine zAu (fun(y:Int)=>∃ m:Nat,y=m/\m<n.n.length/\(zAd n).getD m 0=(zAd n).getD x.toNat 0) (fun y=>[(1,I y)]) (fun y=>y.toNat) x ⟨x.toNat,by omega,by omega,rfl⟩ fun y ⟨m,hy,hm,hc⟩=>?_;subst hy;have ham:=ho.na m hm;have uj:=zHz ho hm;by_cases hge:(n.n.getD m d0).1 = -1
 ·rw[if_pos hge] at uj;rw[<- hc,uj];refine zAc<|zAn 3<|S_a [(2,.v (agg [I (n.n.getD m d0).fst,bool (n.n.getD m d0).snd]))] (ap (zBN d0 (by omega):(map ntV n.n)[m]? = some (agg [I (n.n.getD m d0).fst,bool (n.n.getD m d0).snd])) an)<|S_g 3<|zH6 ((n.n.getD m d0).fst = -1) (by omega)<|zAG 0<|zAj 2<|zAm E_0
 ·rw[if_neg hge] at uj;refine zAc<|zAn 3<|S_a [(2,.v (agg [I (n.n.getD m d0).fst,bool (n.n.getD m d0).snd]))] (ap (zBN d0 (by omega):(map ntV n.n)[m]? = some (agg [I (n.n.getD m d0).fst,bool (n.n.getD m d0).snd])) an)<|S_g 3<|zIb ((n.n.getD m d0).fst = -1) (by omega)<|zAh<|zAg 1<|zAb<|zAp 3<|S_a [(2,.v (agg [I (n.n.getD m d0).fst,bool (n.n.getD m d0).snd]))] (ap (zBN d0 (by omega):(map ntV n.n)[m]? = some (agg [I (n.n.getD m d0).fst,bool (n.n.getD m d0).snd])) an)<|S_g 3 ?_
  exact rnd (n.n.getD m d0).1 ⟨(n.n.getD m d0).1.toNat,by omega,by omega,by rw[<- uj];exact hc⟩ (by omega)
end
end Go.Eng
set_option maxRecDepth 10000
set_option maxHeartbeats 4000000
namespace Go.Eng
open Go Go.Proofs
section
variable [Yo]
theorem f137(n:Nw)(l:LI)(x:Int)(ho:NwOk n)(hx:0<=x/\x<n.n.length)(hl:∀ y∈l,0<=y/\y<n.n.length)(gA:l.length<=1000):FG 137 [.own 1 (l.map I),I x,.ref (nwV n)] (.own 1 ((zHb n l x).map I)):=by
 refine zAe Tryz.f137 ?_;refine zAj 1<|zAc<|zAn 1<|S_a [(0,.n l.length)] (ap (lnS I l) an)<|S_g 1<|zAg 0 ?_
 refine zAu (fun i=>i<=l.length/\∀ j,j<i->zGF n x (l.getD j 0)=false) (fun(i:Nat)=>[(10,I (i:Nat))]) (fun i=>l.length-i) (0:Nat) ⟨bR _,fun j hj=>absurd hj (b8 j)⟩ fun i ⟨hi,ha⟩=>?_;by_cases yH:i<l.length
 ·have hy:=zBP (d:=0) hl i yH;by_cases hs:zGF n x (l.getD i 0)=true
  ·have hp:=zWT yH ha hs;have yz:(zAd n).getD (l.getD i 0).toNat 0=(zAd n).getD x.toNat 0:=of_decide_eq_true hs;rw[hp,show max (l.getD i 0) x=if x>l.getD i 0 then x else l.getD i 0 by split<;>omega];clear ha hl hp hs;refine zAj 1<|zAc<|zAL ((i:Int)<(l.length:Int)) (by omega)<|zAh<|zAc<|zAg 1<|zAn 1<|S_a [(2,.ob),(1,.n i)] (ap ((by exact zAl (by simp only[be,zzLn]<;>omega)):decide (i<(map I l).length)=true)<|ap ((by simp):some (0+i)=some i) an)<|S_a [(0,.cs false ([I (l.getD i 0)]))] (ap (zB2 (q:=own 1 (map I l)) (xs:=map I l) (x:=I (l.getD i 0)) rfl (zBN (0) (by omega)):zAo 0 (own 1 (map I l)) [] i 0 1=some (false,[I (l.getD i 0)])) an)<|S_g 2<|zAn 2<|S_a [(8,.ret (I ((zAd n).getD (l.getD i 0).toNat 0)) [])] (ap (f54 n (l.getD i 0) (by omega) (by omega)) an)<|zAp 2<|S_a [(8,.ret (I ((zAd n).getD x.toNat 0)) [])] (ap (f54 n x (by omega) (by omega)) an)<|S_g 1<|zAL ((zAd n).getD (l.getD i 0).toNat 0=(zAd n).getD x.toNat 0) (by omega)<|zAn 5<|S_a [(2,.ob),(1,.n i)] (ap ((by exact zAl (by simp only[be,zzLn]<;>omega)):decide (i<(map I l).length)=true)<|ap ((by simp):some (0+i)=some i) an)<|S_a [(8,.root (own 1 (map I (l.set i (if x>l.getD i 0 then x else l.getD i 0)))) true)] (ap (zNy (zBN (0) (by omega)) zFm:zBO (own 1 (map I l)) [] i 0 (I (if x>l.getD i 0 then x else l.getD i 0)).cells=some (own 1 (map I (l.set i (if x>l.getD i 0 then x else l.getD i 0))))/\zAH (own 1 (map I l)) (own 1 (map I (l.set i (if x>l.getD i 0 then x else l.getD i 0)))) []=true) an)<|zA6<|zAn 1<|S_a [(2,.yes)] (ap ((by exact zBj (by simp<;>omega)):(beq 0 0&&(map I (l.set i (if x>l.getD i 0 then x else l.getD i 0))).length.beq (map I (l.set i (if x>l.getD i 0 then x else l.getD i 0))).length)=true) an)<|zA6<|zAm<|E_z [(1,.yes),(1,.v (own 1 (map I (l.set i (if x>l.getD i 0 then x else l.getD i 0)))))] (ap (blz (map I (l.set i (if x>l.getD i 0 then x else l.getD i 0))))<|ap ((zAQ zAW):own 1 (take (map I (l.set i (if x>l.getD i 0 then x else l.getD i 0))).length (drop 0 (map I (l.set i (if x>l.getD i 0 then x else l.getD i 0)))))=own 1 (map I (l.set i (if x>l.getD i 0 then x else l.getD i 0)))) an)
  ·have hon:zGF n x (l.getD i 0)=false->∀ j,j<i+1->zGF n x (l.getD j 0)=false:=fun h j hj=>by
    rcases bE.1 hj with h2|rfl
    ·exact ha j h2
    ·exact h
   have yz:¬ (zAd n).getD (l.getD i 0).toNat 0=(zAd n).getD x.toNat 0:=fun h=>hs (decide_eq_true h);rw[cu] at hs;clear ha hl;refine zAj 1<|zAc<|zAL ((i:Int)<(l.length:Int)) (by omega)<|zAh<|zAc<|zAg 1<|zAn 1<|S_a [(2,.ob),(1,.n i)] (ap ((by exact zAl (by simp only[be,zzLn]<;>omega)):decide (i<(map I l).length)=true)<|ap ((by simp):some (0+i)=some i) an)<|S_a [(0,.cs false ([I (l.getD i 0)]))] (ap (zB2 (q:=own 1 (map I l)) (xs:=map I l) (x:=I (l.getD i 0)) rfl (zBN (0) (by omega)):zAo 0 (own 1 (map I l)) [] i 0 1=some (false,[I (l.getD i 0)])) an)<|S_g 2<|zAn 2<|S_a [(8,.ret (I ((zAd n).getD (l.getD i 0).toNat 0)) [])] (ap (f54 n (l.getD i 0) (by omega) (by omega)) an)<|zAp 2<|S_a [(8,.ret (I ((zAd n).getD x.toNat 0)) [])] (ap (f54 n x (by omega) (by omega)) an)<|S_g 1<|zAS ((zAd n).getD (l.getD i 0).toNat 0=(zAd n).getD x.toNat 0) (by omega)<|zAh<|zAb<|S_i i<|S_g 1 ?_
   exact rnd (i+1) ⟨by omega,hon hs⟩ (by omega)
 ·rw[zUS fun j hj=>ha j (by omega)];clear ha hl;refine zAj 1<|zAc<|zAS ((i:Int)<(l.length:Int)) (by omega)<|zAG 0<|zAn 3<|S_a [(4,.ob),(0,.ob),(0,.yes),(2,.v (own 1 (map I (l++[x]))))] (ap (blz (map I l))<|ap ((by exact zAP (by simp only[be,zzLn,zAJ]<;>omega)):((map I l).length + [I x].length).ble zAJ=true)<|ap ((by exact zBj (by simp<;>omega)):(0+(map I l).length).beq (map I l).length=true)<|ap ((zAQ (zBF (by kernel_rfl))):own 1 (map I l++[I x])=own 1 (map I (l++[x]))) an)<|S_g 1<|zAm<|E_z [(1,.yes),(1,.v (own 1 (map I (l++[x]))))] (ap (blz (map I (l++[x])))<|ap ((zAQ zAW):own 1 (take (map I (l++[x])).length (drop 0 (map I (l++[x]))))=own 1 (map I (l++[x]))) an)
end
theorem f56a(l:List LI)(i:Nat)(hi:i<l.length)(hl:(l.getD i []).length<=4294967296):zBM Tryz.prog zCG 56 [.bor 50000000 [(i,0)] 1 0 (l.getD i []).length] [.own 1 (l.map zA7)] (.tup []) [.own 1 ((l.set i (zCM (l.getD i []))).map zA7)]:=zNY (fn:=Tryz.f56) l i hi hl
theorem zVv{rows:List LI}{i:Nat}(hi:i<rows.length):((rows.take i).map zCM++rows.drop i).getD i []=rows.getD i []/\((rows.take i).map zCM++rows.drop i).set i (zCM (rows.getD i []))=(rows.take (i+1)).map zCM++rows.drop (i+1):=by
 have hl:((rows.take i).map zCM).length=i:=by simp;omega
 have hd:rows.drop i=rows.getD i []::rows.drop (i+1):=by rw[zAr hi];exact bX hi
 constructor
 ·rw[bK,cQ (by omega),hl,fX,hd];rfl
 ·rw[fR _ _ (by omega),hl,fX,hd,cy,zBI (d:=[]) hi,cB,cx];rfl
theorem zFZ(rows:List LI):(own 1 (rows.map zA7)).free=true:=by
 show zEy (rows.map zA7)=true
 exact zBv rows fun x=>zBv x
theorem zPV{n:Nw}(ho:NwOk n){S:Nat->Nat->Int->Prop}{rows:List LI}(hr:TR n S rows):∀ r∈rows,r.length<=8:=fun r hm=>by
 obtain⟨h,hh,rfl⟩:=dv hm;have:=zMn ho (hr.row h (by rw[<- hr.len];exact hh));rwa[zAr hh] at this
theorem f59(n:Nw)(cs:LP)(e:Int)(ho:CrW n cs)(yO:cs.length<=1000)(he:0<=e/\e<=12):FG 59 [nwV n,prs cs,I e] (.own 1 ((zBn n cs e.toNat).map zA7)):=by
 have hn:=ho.nw;have hH:=hn.h;have kY:=hn.nl;have hs6:=hn.sl;have hl20:=hn.ll;refine zAe Tryz.f59 ?_;refine zAj 2<|zAn 2<|S_a [(0,.ob),(1,.ob),(1,.ob),(0,.ob),(1,.v (own 1 (map (fun l=>own 1 (map I l)) (replicate n.h.toNat []))))] (ap ((by exact zAl (by omega)):decide (0<=n.h)=true)<|ap ((by exact zAl (by omega)):decide (0<=n.h)=true)<|ap ((by exact zAl (by omega)):decide (n.h.toNat<=n.h.toNat)=true)<|ap ((by exact zAl (by simp[zAJ]<;>omega)):decide (n.h.toNat<=zAJ)=true)<|ap ((by simp):own 1 (replicate n.h.toNat (own 1 []))=own 1 (map (fun l=>own 1 (map I l)) (replicate n.h.toNat []))) an)<|S_g 1<|zAj 2<|zAc<|zAn 1<|S_a [(0,.n cs.length)] (ap (lnS prV cs) an)<|S_g 1<|zAg 0 ?_
 refine zAu (fun(i,rows)=>i<=cs.length/\TR n (crS n cs i 0) rows) (fun((i:Nat),(rows:List LI))=>[(7,.own 1 (rows.map zA7)),(26,I (i:Nat))]) (fun(i,_)=>cs.length-i) ((0:Nat),replicate n.h.toNat []) ⟨bR _,(zUv hn).same fun a _ c _ v=>zVn.symm⟩ (hs:=by exact fv (by kernel_rfl:_=([(1,prs cs),(2,I e),(3,(agg [I n.h,prs n.l,sl (map ntV n.n),sl (map zBi n.s)]).box),(7,own 1 (map (fun l=>own 1 (map I l)) (replicate n.h.toNat []))),(8,func 137 [] [addr 3 [] 0 0 (some 4)]),(23,func 137 [] [addr 3 [] 0 0 (some 4)]),(24,prs cs),(25,I (cs.length:Int)),(26,I 0)])) (fv (by simp only[zS9,zTG]:_=([(1,prs cs),(2,I e),(3,(agg [I n.h,prs n.l,sl (map ntV n.n),sl (map zBi n.s)]).box),(7,own 1 (map zA7 (replicate n.h.toNat []))),(8,func 137 [] [addr 3 [] 0 0 (some 4)]),(23,func 137 [] [addr 3 [] 0 0 (some 4)]),(24,prs cs),(25,I (cs.length:Int)),(26,I (↑0:Int))])) (by kernel_rfl))) fun(i,rows) ⟨hi,hr⟩=>?_;have wA:=hr.len;by_cases yH:i<cs.length
 ·have qN:=zBP (d:=d0) ho.cs i yH;have yC:=zBP (d:=[]) hn.sr (cs.getD i d0).2.toNat (by omega);have yy:=zBP (d:=[]) hn.rows (cs.getD i d0).2.toNat (by omega);have jJ:=qN.2;refine zAj 1<|zAc<|zAL ((i:Int)<(cs.length:Int)) (by omega)<|zAh<|zAc<|zAg 1<|zAc<|zAb<|S_a [(2,.v (prV (cs.getD i d0)))] (ap (zBN d0 (by omega):(map prV cs)[i]? = some (prV (cs.getD i d0))) an)<|S_g 3<|zAn 4<|S_a [(0,.ob),(1,.v (zBi (n.s.getD (cs.getD i d0).snd.toNat [])))] (ap ((by exact zAl (by omega)):decide (0<=(cs.getD i d0).snd)=true)<|ap (zBN [] (by omega):(map zBi n.s)[(cs.getD i d0).snd.toNat]? = some (zBi (n.s.getD (cs.getD i d0).snd.toNat []))) an)<|zAp 1<|S_a [(0,.n ((n.s.getD (cs.getD i d0).snd.toNat []).length))] (ap (lnS I (n.s.getD (cs.getD i d0).snd.toNat [])) an)<|S_g 1<|zAg 2 ?_
  refine zAu (fun(j,rows)=>j<=(n.s.getD (cs.getD i d0).2.toNat []).length/\TR n (crS n cs i j) rows) (fun((j:Nat),(rows:List LI))=>[(7,.own 1 (rows.map zA7)),(37,I (j:Nat))]) (fun(j,_)=>(n.s.getD (cs.getD i d0).2.toNat []).length-j) ((0:Nat),rows) ⟨bR _,hr⟩ fun(j,rows) ⟨hj,hr⟩=>?_;have wA:=hr.len;by_cases y5:j<(n.s.getD (cs.getD i d0).2.toNat []).length
  ·have hx:=zBP (d:=0) yC j y5;have ha:(n.s.getD (cs.getD i d0).2.toNat []).getD j 0=(((n.s.getD (cs.getD i d0).2.toNat []).getD j 0).toNat:Nat):=(dK hx.1).symm;have hah:((n.s.getD (cs.getD i d0).2.toNat []).getD j 0).toNat<n.h.toNat:=by omega
   have yK:=(hr.put hah qN.1).same fun b _ c _ v=>zYu y5 ha;have yp:=(hr.row _ hah).el;have hr8:=zMn hn (hr.row _ hah);have jK:=qN.1;clear hr yC ha;refine zAj 1<|zAc<|zAL ((j:Int)<(↑(n.s.getD (cs.getD i d0).snd.toNat []).length:Int)) (by omega)<|zAh<|zAc<|zAg 3<|zAc<|zAb<|S_a [(2,.v (I ((n.s.getD (cs.getD i d0).snd.toNat []).getD j 0)))] (ap (zBN (0) (by omega):(map I (n.s.getD (cs.getD i d0).snd.toNat []))[j]? = some (I ((n.s.getD (cs.getD i d0).snd.toNat []).getD j 0))) an)<|S_g 2<|zAb<|zAp 5<|S_a [(0,.ob),(1,.ob),(1,.n (((n.s.getD (cs.getD i d0).snd.toNat []).getD j 0).toNat))] (ap ((by exact zAl (by omega)):decide (0<=(n.s.getD (cs.getD i d0).snd.toNat []).getD j 0)=true)<|ap ((by exact zAl (by simp only[be,zzLn]<;>omega)):decide (((n.s.getD (cs.getD i d0).snd.toNat []).getD j 0).toNat<(map zA7 rows).length)=true)<|ap ((by simp):some (0+((n.s.getD (cs.getD i d0).snd.toNat []).getD j 0).toNat)=some ((n.s.getD (cs.getD i d0).snd.toNat []).getD j 0).toNat) an)<|S_a [(0,.cs false ([bor 7 [(((n.s.getD (cs.getD i d0).snd.toNat []).getD j 0).toNat,0)] 1 0 (map I (rows.getD ((n.s.getD (cs.getD i d0).snd.toNat []).getD j 0).toNat [])).length])),(0,.v (bor 7 [(((n.s.getD (cs.getD i d0).snd.toNat []).getD j 0).toNat,0)] 1 0 (rows.getD ((n.s.getD (cs.getD i d0).snd.toNat []).getD j 0).toNat []).length))] (ap (zB2 (q:=own 1 (map zA7 rows)) (xs:=map zA7 rows) (x:=own 1 (map I (rows.getD ((n.s.getD (cs.getD i d0).snd.toNat []).getD j 0).toNat []))) rfl (zBN [] (by omega)):zAo 7 (own 1 (map zA7 rows)) [] ((n.s.getD (cs.getD i d0).snd.toNat []).getD j 0).toNat 0 1=some (false,[bor 7 [(((n.s.getD (cs.getD i d0).snd.toNat []).getD j 0).toNat,0)] 1 0 (map I (rows.getD ((n.s.getD (cs.getD i d0).snd.toNat []).getD j 0).toNat [])).length]))<|ap ((by simp):bor 7 [(((n.s.getD (cs.getD i d0).snd.toNat []).getD j 0).toNat,0)] 1 0 (map I (rows.getD ((n.s.getD (cs.getD i d0).snd.toNat []).getD j 0).toNat [])).length=bor 7 [(((n.s.getD (cs.getD i d0).snd.toNat []).getD j 0).toNat,0)] 1 0 (rows.getD ((n.s.getD (cs.getD i d0).snd.toNat []).getD j 0).toNat []).length) an)<|zAp 2<|S_a [(2,.v (own 1 (map I (rows.getD ((n.s.getD (cs.getD i d0).snd.toNat []).getD j 0).toNat [])))),(0,.ob),(0,.root (own 1 ((map zA7 rows).set ((n.s.getD (cs.getD i d0).snd.toNat []).getD j 0).toNat bad)) true),(0,.v (own 1 (map I (rows.getD ((n.s.getD (cs.getD i d0).snd.toNat []).getD j 0).toNat [])))),(10,.ret (own 1 (map I (zHb n (rows.getD ((n.s.getD (cs.getD i d0).snd.toNat []).getD j 0).toNat []) (cs.getD i d0).fst))) []),(1,.yes)] (ap ((zFV (xs:=map zA7 rows) (x:=own 1 (map I (rows.getD ((n.s.getD (cs.getD i d0).snd.toNat []).getD j 0).toNat []))) (y:=own 1 (map I (rows.getD ((n.s.getD (cs.getD i d0).snd.toNat []).getD j 0).toNat []))) (zBN [] (by omega)) rfl):zAC (own 1 (map zA7 rows)) [(((n.s.getD (cs.getD i d0).snd.toNat []).getD j 0).toNat,0)]=some (own 1 (map I (rows.getD ((n.s.getD (cs.getD i d0).snd.toNat []).getD j 0).toNat []))))<|ap ((by exact zAP (by simp only[be,zzLn,zAJ]<;>omega)):(rows.getD ((n.s.getD (cs.getD i d0).snd.toNat []).getD j 0).toNat []).length.ble (map I (rows.getD ((n.s.getD (cs.getD i d0).snd.toNat []).getD j 0).toNat [])).length=true)<|ap (⟨(zYG (p:=own 1 (map zA7 rows)) (xs:=map zA7 rows) (x:=own 1 (map I (rows.getD ((n.s.getD (cs.getD i d0).snd.toNat []).getD j 0).toNat []))) (q:=own 1 (map I (rows.getD ((n.s.getD (cs.getD i d0).snd.toNat []).getD j 0).toNat []))) (q':=bad) (y:=bad) (p':=own 1 ((map zA7 rows).set ((n.s.getD (cs.getD i d0).snd.toNat []).getD j 0).toNat bad)) (zBN [] (by omega)) rfl rfl rfl),(by first|exact zWi|exact zWb (w:=0) (p2:=(0,[])))⟩:zAz (fun x=>some bad) (own 1 (map zA7 rows)) [(((n.s.getD (cs.getD i d0).snd.toNat []).getD j 0).toNat,0)]=some (own 1 ((map zA7 rows).set ((n.s.getD (cs.getD i d0).snd.toNat []).getD j 0).toNat bad))/\zAH (own 1 (map zA7 rows)) (own 1 ((map zA7 rows).set ((n.s.getD (cs.getD i d0).snd.toNat []).getD j 0).toNat bad)) [(((n.s.getD (cs.getD i d0).snd.toNat []).getD j 0).toNat,0)]=true)<|ap ((by simp[zBd]):own 1 (take (rows.getD ((n.s.getD (cs.getD i d0).snd.toNat []).getD j 0).toNat []).length (drop 0 (map I (rows.getD ((n.s.getD (cs.getD i d0).snd.toNat []).getD j 0).toNat []))))=own 1 (map I (rows.getD ((n.s.getD (cs.getD i d0).snd.toNat []).getD j 0).toNat [])))<|ap (f137 n (rows.getD ((n.s.getD (cs.getD i d0).snd.toNat []).getD j 0).toNat []) ((cs.getD i d0).fst) (by omega) (by omega) (by omega) (by omega))<|ap ((by exact zBv _):(own 1 (map I (zHb n (rows.getD ((n.s.getD (cs.getD i d0).snd.toNat []).getD j 0).toNat []) (cs.getD i d0).fst))).free=true) an)<|S_a [(0,.ob),(1,.ob),(1,.n (((n.s.getD (cs.getD i d0).snd.toNat []).getD j 0).toNat))] (ap ((by exact zAl (by omega)):decide (0<=(n.s.getD (cs.getD i d0).snd.toNat []).getD j 0)=true)<|ap ((by exact zAl (by simp only[be,zzLn]<;>omega)):decide (((n.s.getD (cs.getD i d0).snd.toNat []).getD j 0).toNat<(map zA7 rows).length)=true)<|ap ((by simp):some (0+((n.s.getD (cs.getD i d0).snd.toNat []).getD j 0).toNat)=some ((n.s.getD (cs.getD i d0).snd.toNat []).getD j 0).toNat) an)<|S_a [(8,.root (own 1 (map zA7 (rows.set ((n.s.getD (cs.getD i d0).snd.toNat []).getD j 0).toNat (zHb n (rows.getD ((n.s.getD (cs.getD i d0).snd.toNat []).getD j 0).toNat []) (cs.getD i d0).fst)))) true)] (ap (zNy (zYM (by omega)) (zPA (u:=zHb n (rows.getD ((n.s.getD (cs.getD i d0).snd.toNat []).getD j 0).toNat []) (cs.getD i d0).fst)):zBO (own 1 ((map zA7 rows).set ((n.s.getD (cs.getD i d0).snd.toNat []).getD j 0).toNat bad)) [] ((n.s.getD (cs.getD i d0).snd.toNat []).getD j 0).toNat 0 (own 1 (map I (zHb n (rows.getD ((n.s.getD (cs.getD i d0).snd.toNat []).getD j 0).toNat []) (cs.getD i d0).fst))).cells=some (own 1 (map zA7 (rows.set ((n.s.getD (cs.getD i d0).snd.toNat []).getD j 0).toNat (zHb n (rows.getD ((n.s.getD (cs.getD i d0).snd.toNat []).getD j 0).toNat []) (cs.getD i d0).fst))))/\zAH (own 1 ((map zA7 rows).set ((n.s.getD (cs.getD i d0).snd.toNat []).getD j 0).toNat bad)) (own 1 (map zA7 (rows.set ((n.s.getD (cs.getD i d0).snd.toNat []).getD j 0).toNat (zHb n (rows.getD ((n.s.getD (cs.getD i d0).snd.toNat []).getD j 0).toNat []) (cs.getD i d0).fst)))) []=true) an)<|zA6<|zAb<|S_i j<|S_g 1 ?_
   exact rnd (j+1,rows.set ((n.s.getD (cs.getD i d0).2.toNat []).getD j 0).toNat (zHb n (rows.getD ((n.s.getD (cs.getD i d0).2.toNat []).getD j 0).toNat []) (cs.getD i d0).1)) ⟨by omega,yK⟩ (by simp only;omega)
  ·have e1:j=(n.s.getD (cs.getD i d0).2.toNat []).length:=by omega
   subst e1;have yK:=hr.same fun b _ c _ v=>zU9 yH;clear hr yC;refine zAj 1<|zAc<|zAS ((↑(n.s.getD (cs.getD i d0).snd.toNat []).length:Int)<(↑(n.s.getD (cs.getD i d0).snd.toNat []).length:Int)) (by omega)<|zAG 2<|zAb<|S_i i<|S_g 1 ?_
   exact rnd (i+1,rows) ⟨by omega,yK⟩ (by simp only;omega)
 ·have e1 : i=cs.length:=by omega
  subst e1;have ur:=hr.same fun b hb c hc v=>zXi ho hb hc;clear hr;refine zAj 1<|zAc<|zAS ((cs.length:Int)<(cs.length:Int)) (by omega)<|zAG 0<|zAc<|zAj 2<|zAg 4 ?_
  refine zAu (fun(k,rows)=>k<=e.toNat/\TR n (fun h c v=>v<=(zAD n cs k).getD (h*8+c) 0) rows) (fun((k:Nat),(rows:List LI))=>[(7,.own 1 (rows.map zA7)),(55,I (k:Nat))]) (fun(k,_)=>e.toNat-k) ((0:Nat),rows) ⟨bR _,ur⟩ fun(k,rows) ⟨hk,hr⟩=>?_;clear ur;have wA:=hr.len;by_cases w6:(k:Int)<e
  ·have hr8:=zPV hn hr;have hr6:∀ r∈rows,r.length<1000000:=fun r hm=>by have:=hr8 r hm;omega
   have yC:=hr.same fun a _ c _ v=>zTY (n:=n) (row:=[]);refine zAj 1<|zAc<|zAL ((k:Int)<e) (by omega)<|zAh<|zAc<|zAg 5<|zAn 1<|S_a [(3,.ob),(0,.v (sl (map zBi rows))),(2,.ret (own 1 (map zA7 rows)) []),(1,.yes)] (ap (blz (map zA7 rows))<|ap (frC zA7 zBi rows)<|ap (f89 rows (by omega) (by omega))<|ap (?_:(own 1 (map zA7 rows)).free=true) an)<|S_g 1<|zAc<|zAn 1<|S_a [(0,.n rows.length)] (ap (lnS zA7 rows) an)<|S_g 1<|zAg 6 ?_
   ·exact zFZ rows
   refine zAu (fun(h,nxt)=>h<=n.h.toNat/\TR n (evS n (zAD n cs k) [] h 0 0) nxt) (fun((h:Nat),(nxt:List LI))=>[(13,.own 1 (nxt.map zA7)),(61,I (h:Nat))]) (fun(h,_)=>n.h.toNat-h) ((0:Nat),rows) ⟨bR _,yC⟩ fun(h,nxt) ⟨hh,hx⟩=>?_;clear yC;have qI:=hx.len;by_cases wv:h<n.h.toNat
   ·refine zAj 1<|zAc<|zAL ((h:Int)<(rows.length:Int)) (by omega)<|zAh<|zAc<|zAg 7<|zAj 2<|zAn 1<|S_a [(0,.n rows.length)] (ap (lnS zA7 rows) an)<|S_g 1<|zAg 8 ?_
    refine zAu (fun(o,nxt)=>o<=n.h.toNat/\TR n (evS n (zAD n cs k) [] h o 0) nxt) (fun((o:Nat),(nxt:List LI))=>[(13,.own 1 (nxt.map zA7)),(66,I (o:Nat))]) (fun(o,_)=>n.h.toNat-o) ((0:Nat),nxt) ⟨bR _,hx⟩ fun(o,nxt) ⟨ho2,hx⟩=>?_;have qI:=hx.len;by_cases qS:o<n.h.toNat
    ·have yB:=hr.row o qS;have uu:=hx.same fun a _ c _ v=>zVH (row':=rows.getD o []);have hlv:∀ a,a<n.h.toNat->∀ c,c<8->∀ v,evS n (zAD n cs k) (rows.getD o []) h o (rows.getD o []).length a c v↔evS n (zAD n cs k) [] h (o+1) 0 a c v:=fun a _ c hc v=>zVl (hr.lv o qS c hc v) ((hr.lv h wv c hc (-1)).1 (.inl (dj _)));have yp:=yB.el;have hrl8:=zMn hn yB;clear hr hx yB;refine zAj 1<|zAc<|zAL ((o:Int)<(rows.length:Int)) (by omega)<|zAh<|zAc<|zAg 9<|zAj 2<|zAn 2<|S_a [(2,.ob),(1,.n o)] (ap ((by exact zAl (by simp only[be,zzLn]<;>omega)):decide (o<(map zA7 rows).length)=true)<|ap ((by simp):some (0+o)=some o) an)<|S_a [(0,.cs false ([bor 7 [(o,0)] 1 0 (map I (rows.getD o [])).length])),(0,.v (bor 7 [(o,0)] 1 0 (rows.getD o []).length))] (ap (zB2 (q:=own 1 (map zA7 rows)) (xs:=map zA7 rows) (x:=own 1 (map I (rows.getD o []))) rfl (zBN [] (by omega)):zAo 7 (own 1 (map zA7 rows)) [] o 0 1=some (false,[bor 7 [(o,0)] 1 0 (map I (rows.getD o [])).length]))<|ap ((by simp):bor 7 [(o,0)] 1 0 (map I (rows.getD o [])).length=bor 7 [(o,0)] 1 0 (rows.getD o []).length) an)<|S_g 2<|zAg 10 ?_
     refine zAu (fun(j,nxt)=>j<=(rows.getD o []).length/\TR n (evS n (zAD n cs k) (rows.getD o []) h o j) nxt) (fun((j:Nat),(nxt:List LI))=>[(13,.own 1 (nxt.map zA7)),(74,I (j:Nat))]) (fun(j,_)=>(rows.getD o []).length-j) ((0:Nat),nxt) ⟨bR _,uu⟩ fun(j,nxt) ⟨hj,hx⟩=>?_;clear uu;have qI:=hx.len;by_cases y5:j<(rows.getD o []).length
     ·have hxe:=zBP (d:=0) yp j y5;have hI:=(hx.row h wv).el;have hn8':=zMn hn (hx.row h wv);by_cases w7:zDe n h o=true
      ·have yK:=(hx.put wv hxe).same fun a _ c _ v=>zXX y5 w7;have hnc:=f77 n h o (by omega);rw[w7] at hnc;clear hx hlv yp;refine zAj 1<|zAc<|zAL ((j:Int)<(↑(rows.getD o []).length:Int)) (by omega)<|zAh<|zAc<|zAg 11<|zAc<|zAb<|S_a [(2,.ob),(1,.n j)] (ap ((by exact zAl (by omega)):decide (j<(rows.getD o []).length)=true)<|ap ((by simp):some (0+j)=some j) an)<|S_a [(0,.cs false ([I ((rows.getD o []).getD j 0)]))] (ap (zB2 (q:=own 1 (map I (rows.getD o []))) (xs:=map I (rows.getD o [])) (x:=I ((rows.getD o []).getD j 0)) (zFV (xs:=map zA7 rows) (x:=own 1 (map I (rows.getD o []))) (y:=own 1 (map I (rows.getD o []))) (zBN [] (by omega)) rfl) (zBN (0) (by omega)):zAo 7 (own 1 (map zA7 rows)) [(o,0)] j 0 1=some (false,[I ((rows.getD o []).getD j 0)])) an)<|S_g 1<|zAn 3<|S_a [(10,.ret (bool true) [])] (ap hnc an)<|zA6<|zB9<|zAb<|zAp 5<|S_a [(2,.ob),(1,.n h)] (ap ((by exact zAl (by simp only[be,zzLn]<;>omega)):decide (h<(map zA7 nxt).length)=true)<|ap ((by simp):some (0+h)=some h) an)<|S_a [(0,.cs false ([bor 13 [(h,0)] 1 0 (map I (nxt.getD h [])).length])),(0,.v (bor 13 [(h,0)] 1 0 (nxt.getD h []).length))] (ap (zB2 (q:=own 1 (map zA7 nxt)) (xs:=map zA7 nxt) (x:=own 1 (map I (nxt.getD h []))) rfl (zBN [] (by omega)):zAo 13 (own 1 (map zA7 nxt)) [] h 0 1=some (false,[bor 13 [(h,0)] 1 0 (map I (nxt.getD h [])).length]))<|ap ((by simp):bor 13 [(h,0)] 1 0 (map I (nxt.getD h [])).length=bor 13 [(h,0)] 1 0 (nxt.getD h []).length) an)<|zAp 1<|S_a [(2,.v (own 1 (map I (nxt.getD h [])))),(0,.ob),(0,.root (own 1 ((map zA7 nxt).set h bad)) true),(0,.v (own 1 (map I (nxt.getD h [])))),(10,.ret (own 1 (map I (zHb n (nxt.getD h []) ((rows.getD o []).getD j 0)))) []),(1,.yes)] (ap ((zFV (xs:=map zA7 nxt) (x:=own 1 (map I (nxt.getD h []))) (y:=own 1 (map I (nxt.getD h []))) (zBN [] (by omega)) rfl):zAC (own 1 (map zA7 nxt)) [(h,0)]=some (own 1 (map I (nxt.getD h []))))<|ap ((by exact zAP (by simp only[be,zzLn,zAJ]<;>omega)):(nxt.getD h []).length.ble (map I (nxt.getD h [])).length=true)<|ap (⟨(zYG (p:=own 1 (map zA7 nxt)) (xs:=map zA7 nxt) (x:=own 1 (map I (nxt.getD h []))) (q:=own 1 (map I (nxt.getD h []))) (q':=bad) (y:=bad) (p':=own 1 ((map zA7 nxt).set h bad)) (zBN [] (by omega)) rfl rfl rfl),(by first|exact zWi|exact zWb (w:=0) (p2:=(0,[])))⟩:zAz (fun x=>some bad) (own 1 (map zA7 nxt)) [(h,0)]=some (own 1 ((map zA7 nxt).set h bad))/\zAH (own 1 (map zA7 nxt)) (own 1 ((map zA7 nxt).set h bad)) [(h,0)]=true)<|ap ((by simp[zBd]):own 1 (take (nxt.getD h []).length (drop 0 (map I (nxt.getD h []))))=own 1 (map I (nxt.getD h [])))<|ap (f137 n (nxt.getD h []) ((rows.getD o []).getD j 0) (by omega) (by omega) (by omega) (by omega))<|ap ((by exact zBv _):(own 1 (map I (zHb n (nxt.getD h []) ((rows.getD o []).getD j 0)))).free=true) an)<|S_a [(2,.ob),(1,.n h)] (ap ((by exact zAl (by simp only[be,zzLn]<;>omega)):decide (h<(map zA7 nxt).length)=true)<|ap ((by simp):some (0+h)=some h) an)<|S_a [(8,.root (own 1 (map zA7 (nxt.set h (zHb n (nxt.getD h []) ((rows.getD o []).getD j 0))))) true)] (ap (zNy (zYM (by omega)) (zPA (u:=zHb n (nxt.getD h []) ((rows.getD o []).getD j 0))):zBO (own 1 ((map zA7 nxt).set h bad)) [] h 0 (own 1 (map I (zHb n (nxt.getD h []) ((rows.getD o []).getD j 0)))).cells=some (own 1 (map zA7 (nxt.set h (zHb n (nxt.getD h []) ((rows.getD o []).getD j 0)))))/\zAH (own 1 ((map zA7 nxt).set h bad)) (own 1 (map zA7 (nxt.set h (zHb n (nxt.getD h []) ((rows.getD o []).getD j 0))))) []=true) an)<|zA6<|zAb<|S_i j<|S_g 1 ?_
       exact rnd (j+1,nxt.set h (zHb n (nxt.getD h []) ((rows.getD o []).getD j 0))) ⟨by omega,yK⟩ (by simp only;omega)
      ·rw[cu] at w7;have yK:=hx.same fun a _ c _ v=>zWu (row':=rows.getD o []) (j':=j+1) w7;have hnc:=f77 n h o (by omega);rw[w7] at hnc;clear hx hlv yp;refine zAj 1<|zAc<|zAL ((j:Int)<(↑(rows.getD o []).length:Int)) (by omega)<|zAh<|zAc<|zAg 11<|zAc<|zAb<|S_a [(2,.ob),(1,.n j)] (ap ((by exact zAl (by omega)):decide (j<(rows.getD o []).length)=true)<|ap ((by simp):some (0+j)=some j) an)<|S_a [(0,.cs false ([I ((rows.getD o []).getD j 0)]))] (ap (zB2 (q:=own 1 (map I (rows.getD o []))) (xs:=map I (rows.getD o [])) (x:=I ((rows.getD o []).getD j 0)) (zFV (xs:=map zA7 rows) (x:=own 1 (map I (rows.getD o []))) (y:=own 1 (map I (rows.getD o []))) (zBN [] (by omega)) rfl) (zBN (0) (by omega)):zAo 7 (own 1 (map zA7 rows)) [(o,0)] j 0 1=some (false,[I ((rows.getD o []).getD j 0)])) an)<|S_g 1<|zAn 3<|S_a [(10,.ret (bool false) [])] (ap hnc an)<|zA6<|zAB<|zAh<|zAb<|S_i j<|S_g 1 ?_
       exact rnd (j+1,nxt) ⟨by omega,yK⟩ (by simp only;omega)
     ·have e1:j=(rows.getD o []).length:=by omega
      have yK:=(e1▸hx).same hlv;clear hx hlv yp;refine zAj 1<|zAc<|zAS ((j:Int)<(↑(rows.getD o []).length:Int)) (by omega)<|zAG 10<|zAb<|S_i o<|S_g 1 ?_
      exact rnd (o+1,nxt) ⟨by omega,yK⟩ (by simp only;omega)
    ·have e1:o=n.h.toNat:=by omega
     have yK:=(e1▸hx).same fun a _ c hc v=>zUp hn (row':=[]) (zBr k) wv hc;clear hx;refine zAj 1<|zAc<|zAS ((o:Int)<(rows.length:Int)) (by omega)<|zAG 8<|zAb<|S_i h<|S_g 1 ?_
     exact rnd (h+1,nxt) ⟨by omega,yK⟩ (by simp only;omega)
   ·have e1:h=n.h.toNat:=by omega
    have yK:TR n (fun h c v=>v<=(zAD n cs (k+1)).getD (h*8+c) 0) nxt:=(e1▸hx).same fun a ha c _ v=>zXh ha;clear hx;refine zAj 1<|zAc<|zAS ((h:Int)<(rows.length:Int)) (by omega)<|zAG 6<|zAb<|zAp 1<|S_a [(2,.yes)] (ap ((by exact zBj (by simp<;>omega)):(beq 0 0&&(map zA7 nxt).length.beq (map zA7 nxt).length)=true) an)<|zA6<|zAb<|S_i k<|S_g 1 ?_
    exact rnd (k+1,nxt) ⟨by omega,yK⟩ (by simp only;omega)
  ·have e1:k=e.toNat:=by omega
   subst e1;have hr8:=zPV hn hr;rw[<- zRC hn hr];clear hr;refine zAj 1<|zAc<|zAS ((e.toNat:Int)<e) (by omega)<|zAG 4<|zAc<|zAn 1<|S_a [(0,.n rows.length)] (ap (lnS zA7 rows) an)<|S_g 1<|zAg 12 ?_
   refine zAu (fun(i,q)=>i<=n.h.toNat/\q=(rows.take i).map zCM++rows.drop i) (fun((i:Nat),(q:List LI))=>[(7,.own 1 (q.map zA7)),(99,I (i:Nat))]) (fun(i,_)=>n.h.toNat-i) ((0:Nat),rows) ⟨bR _,by simp⟩ fun(i,q) ⟨hi,hq⟩=>?_;have wB:q.length=n.h.toNat:=by rw[hq];simp;omega
   by_cases yH:i<n.h.toNat
   ·obtain⟨g1,g2⟩:=zVv (rows:=rows) (i:=i) (by omega);rw[<- hq] at g1 g2;rw[<- g1] at g2;have hqe:(q.getD i []).length<=8:=by rw[g1,zAr (show i<rows.length by omega)];exact hr8 _ (cC _)
    clear hq hr8;refine zAj 1<|zAc<|zAL ((i:Int)<(rows.length:Int)) (by omega)<|zAh<|zAc<|zAg 13<|zAc<|zAb<|S_a [(2,.ob),(1,.n i)] (ap ((by exact zAl (by simp only[be,zzLn]<;>omega)):decide (i<(map zA7 rows).length)=true)<|ap ((by simp):some (0+i)=some i) an)<|S_a [(0,.cs false ([bor 7 [(i,0)] 1 0 (map I (q.getD i [])).length])),(0,.v (bor 7 [(i,0)] 1 0 (q.getD i []).length))] (ap (zB2 (q:=own 1 (map zA7 q)) (xs:=map zA7 q) (x:=own 1 (map I (q.getD i []))) rfl (zBN [] (by omega)):zAo 7 (own 1 (map zA7 q)) [] i 0 1=some (false,[bor 7 [(i,0)] 1 0 (map I (q.getD i [])).length]))<|ap ((by simp):bor 7 [(i,0)] 1 0 (map I (q.getD i [])).length=bor 7 [(i,0)] 1 0 (q.getD i []).length) an)<|S_g 1<|zAb<|zAp 1<|S_a [(4,.ret (tup []) ([own 1 (map zA7 (q.set i (zCM (q.getD i []))))]))] (ap (f56a q i (by omega) (by omega)) an)<|zA6<|zAb<|S_i i<|S_g 1 ?_
    exact rnd (i+1,q.set i (zCM (q.getD i []))) ⟨by omega,g2⟩ (by simp only;omega)
   ·rw[show i=n.h.toNat by omega,<- wA,cF,List.drop_length,dn] at hq;rw[<- hq];clear hq hr8;refine zAj 1<|zAc<|zAS ((i:Int)<(rows.length:Int)) (by omega)<|zAG 12<|zAn 1<|S_a [(2,.yes)] (ap ((by exact zBj (by simp<;>omega)):(beq 0 0&&(map zA7 q).length.beq (map zA7 q).length)=true) an)<|zA6<|zAm<|E_z [(1,.yes),(1,.v (own 1 (map zA7 q)))] (ap (blz (map zA7 q))<|ap ((zAQ zAW):own 1 (take (map zA7 q).length (drop 0 (map zA7 q)))=own 1 (map zA7 q)) an)
end Go.Eng
set_option maxHeartbeats 1000000
namespace Go.Eng
open Go
theorem zJe{n:Nw}{cs:LP}{e:Nat}:∀ r∈zBn n cs e,r.length<=n.n.length:=fun r hr=>by
 obtain⟨h,_,rfl⟩:=bT.1 hr;exact zJn
theorem zIM{n:Nw}{cs:LP}{e:Nat}:(zBn n cs e).length=n.h.toNat:=by simp[zBn]
end Go.Eng
