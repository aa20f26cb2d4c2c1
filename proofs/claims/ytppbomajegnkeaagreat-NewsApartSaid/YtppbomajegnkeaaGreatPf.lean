/- No cry at a stand that is offered mends two of the gaps that are apart, so that there are never more of them than further cries are needed; each other gap is mended by a cry that mends one of them; a gap is stuck just if none of these stands is jM near enough to its jN; and with all stands none is; for every list of numbers, evening and stands. -/
import Derived.Test.YtppbomajegnkeaaGreatPe
import Derived.Test.YtppbomajegnkeaaGreatPd
set_option linter.unusedVariables false
set_option linter.unusedSimpArgs false
set_option linter.unusedSectionVars false
set_option maxRecDepth 10000
set_option maxHeartbeats 4000000
open Nat (beq ble blt)
open List (map replicate take drop range length filter)
open Go.Eng.PV (own agg addr func sl bor tup omap bad bool int)
namespace Go.Eng
open Go Go.Proofs
def zKD(h:Int)(x:Int×Int):Bool:=inB x.1 0 (h-1)&&inB x.2 0 (h-1)
def zKN(x:Int×Int):Bool:=decide (x.1≠x.2)
def zCQ(h:Int)(l:LP):Int:=if (l.all fun x=>zKD h x)=true then if (l.all fun x=>zKN x)=true then if (l.map pr2).Nodup then 0 else 5 else 8 else 1
def zUe(l:List (Int×Bool)):Bool:=(range l.length).all fun i=>inB (l.getD i d0).1 (-1) ((i:Int)-1)
def zNc(l:List (Int×Bool))(i:Nat):Bool:=decide ((l.getD i d0).1≠-1)&&(l.take i).any fun y=>decide (y.1=(l.getD i d0).1)
def zD9(l:List (Int×Bool)):Int:=if zUe l=true then if (range l.length).any (zNc l)=true then 5 else 0 else 1
def zEv(l:LI):Bool:=zFZ l&&decide ((zHk l).length=l.length)
def zMD(h:Int)(l:LI):Bool:=l.all fun x=>inB x 0 (h-1)
def zG4(n:Nw):Int :=
 if (!inB n.h 1 10)=true then 2 else if (n.l.length:Int)>15 then 2 else if (!inB n.n.length 1 8)=true then 2 else if (!inB n.s.length 1 6)=true then 2
 else if zCQ n.h n.l=0 then
  if zD9 n.n=0 then
   if (!n.s.all fun x=>zMD n.h x)=true then 1 else if (!n.s.all fun x=>zEv x)=true then 4 else 0
  else zD9 n.n
 else zCQ n.h n.l
theorem zYu{n lo hi:Int}(h:(!inB n lo hi)=false):lo<=n/\n<=hi:=by simpa[inB] using h
abbrev zDW(x:Int×Int):PV×PV:=(prV x,.bool true)
theorem zPv{M:LP}(x:Int×Int):zCh Tryz.prog 87 (prV x) (M.map zDW) 0=some (M.findIdx? fun y=>decide (x=y)):=by
 rw[zKt (kx:=Prod.fst) (ky:=Prod.snd) (fun _=>rfl) (zSs) x.1 x.2 M 0];simp[zS1]
theorem zSi{M:LP}{x:Int×Int}(h:x∈M):∃ j,j<M.length/\zCh Tryz.prog 87 (prV x) (M.map zDW) 0=some (some j):=by
 rw[zPv]
 cases hf:M.findIdx? fun y=>decide (x=y) with
 |none=>
  rw[dm] at hf;have:=hf x h;simp at this
 |some j=>exact⟨j,(da.1 hf).1,rfl⟩
theorem zMe{M:LP}{x:Int×Int}(h:x∉M):zCh Tryz.prog 87 (prV x) (M.map zDW) 0=some none:=by
 rw[zPv,dm.2];intro y hy;simp only[decide_eq_false_iff_not];intro e;subst e;exact h hy
structure Small (n:Nw):Prop where
 hl:n.l.length<1000000
 hn:n.n.length<1000000
 hs:n.s.length<1000000
 hr:∀ x∈n.s,x.length<1000000
section
variable [Yo]
theorem f196(n:Nw)(x:Int×Int)(hb:1<=n.h/\n.h<=10):FG 196 [prV x,.ref (nwV n)] (.bool (zKD n.h x)):=by
 refine zAd Tryz.f196 ?_;refine zAj 2<|zAl 1<|zAm 1<|zAm 1<|S_a [(8,.ret (bool (inB x.fst 0 (n.h-1))) [])] (ap (f109 n x.fst (by omega)) an)<|zAm 1<|zGK 8 (inB x.fst 0 (n.h-1)) (fun k0=>(zAm 1<|zAm 1<|zAm 1<|S_a [(8,.ret (bool (inB x.snd 0 (n.h-1))) [])] (ap (f109 n x.snd (by omega)) an)<|S_g 2<|zAn<|E_a [] an (bool (inB x.snd 0 (n.h-1))) [] ?_ rfl)) (fun k0=>(S_g 6<|zAn<|E_a [] an (bool false) [] ?_ rfl))
 ·simp only[zKD,k0,cy]
 ·simp only[zKD,k0,dB]
theorem f197(x:Int×Int):FG 197 [prV x] (.bool (zKN x)):=by
 refine zAd Tryz.f197 ?_;refine zAj 2<|zAl 1<|zAm 1<|zAm 1<|S_g 3<|zAn<|E_a [] an (bool (x.fst != x.snd)) [] ?_ rfl
 congr 1;rw[co];simp[zKN]
theorem f199(x y:Int×Bool):FG 199 [ntV y,.ref (ntV x)] (.bool (decide (y.1=x.1))):=by
 refine zAd Tryz.f199 ?_;refine zAj 2<|zAj 6<|zAn E_0
theorem f168_1(n:Nw)(hb:1<=n.h/\n.h<=10)(x:Int):FG 168 [I x,.ref (.func 109 [nwV n] [])] (.bool (!(inB x 0 (n.h-1)))):=by
 refine zAd Tryz.f168 ?_;refine zAj 1<|zAl 2<|S_a [(8,.ret (bool (inB x 0 (n.h-1))) [])] (ap (f109 n x (by omega)) an)<|S_g 2<|zAn E_0
theorem f131_1(n:Nw)(hb:1<=n.h/\n.h<=10)(l:List (Int))(hl:l.length<4294967296):FG 131 [.sl (l.map I),.func 168 [] [.ref (.func 109 [nwV n] [])]] (I (zDZ (fun x=>!(inB x 0 (n.h-1))) l)):=by
 refine zAd Tryz.f131 ?_;refine zAj 1<|zAc<|zAl 1<|S_a [(0,.n l.length)] (ap (lnS I l) an)<|S_g 1<|zAf 0 ?_
 refine zAr (fun i=>i<=l.length/\∀ j,j<i->(fun x=>!(inB x 0 (n.h-1))) (l.getD j 0)=false) (fun i=>[(8,I (i:Nat))]) (fun i=>l.length-i) (0:Nat) (by simp) fun i ⟨hi,ha⟩=>?_;refine zAj 1<|zAc<|zCN ((i:Int)<(l.length:Int)) (fun k0=>(zAh<|zAc<|zAf 1<|zAj 2<|zAl 3<|S_a [(2,.v (I (l.getD i 0)))] (ap (zBN (0) (by omega):(map I l)[i]? = some (I (l.getD i 0))) an)<|zAm 1<|S_a [(7,.ret (bool !inB (l.getD i 0) 0 (n.h-1)) [])] (ap (f168_1 n (by omega) (l.getD i 0)) an)<|zA3<|zEx (!inB (l.getD i 0) 0 (n.h-1)) (fun k1=>(zAj 2<|zAn<|E_a [] an (I (i:Int)) [] ?_ rfl)) (fun k1=>(zAh<|zAb<|S_i i<|S_g 1 ?_)))) (fun k0=>(zAD 0<|zAj 1<|zAn<|E_a [] an (I (-1)) [] ?_ rfl))
 ·rw[zBG (i:=i) (by omega) (fun j hj=>by rw[<- zAu (d:=0)];exact ha j hj) (by rw[<- zAu (d:=0)];first|assumption|exact decide_eq_true ‹_›|(simp only[bG,decide_eq_false_iff_not];assumption))]
 ·refine⟨i+1,⟨by omega,fun j hj=>?_⟩,by omega,by kernel_rfl,by kernel_rfl⟩;rcases bP.1 hj with h|rfl
  ·exact ha j h
  ·first|assumption|exact decide_eq_false ‹_›|(simp only[bE,decide_eq_true_eq];first|assumption|(apply cR;assumption))
 ·rw[zBY fun j hj=>by rw[<- zAu (d:=0)];exact ha j (by omega)]
theorem f52_1(n:Nw)(hb:1<=n.h/\n.h<=10)(l:List (Int))(hl:l.length<4294967296):FG 52 [.sl (l.map I),.func 168 [] [.ref (.func 109 [nwV n] [])]] (.bool (l.any (fun x=>!(inB x 0 (n.h-1))))):=by
 refine zAd Tryz.f52 ?_;refine zAj 1<|zAl 2<|S_a [(7,.ret (I (zDZ (fun x=>!inB x 0 (n.h-1)) l)) [])] (ap (f131_1 n (by omega) l (by omega)) an)<|S_g 2<|zAn<|E_a [] an (bool (decide (zDZ (fun x=>!inB x 0 (n.h-1)) l>=0))) [] ?_ rfl
 rw[zDy]
theorem f108_1(n:Nw)(hb:1<=n.h/\n.h<=10)(l:List (Int))(hl:l.length<4294967296):FG 108 [.sl (l.map I),.func 109 [nwV n] []] (.bool (l.all (fun x=>inB x 0 (n.h-1)))):=by
 refine zAd Tryz.f108 ?_;refine zAj 2<|zAl 2<|S_a [(12,.ret (bool (l.any fun x=>!inB x 0 (n.h-1))) [])] (ap (f52_1 n (by omega) l (by omega)) an)<|S_g 2<|zAn<|E_a [] an (bool !l.any fun x=>!inB x 0 (n.h-1)) [] ?_ rfl
 simp[cX]
theorem f221_1(n:Nw)(hb:1<=n.h/\n.h<=10)(x:Int×Int):FG 221 [prV x,.ref (.func 196 [] [.ref (nwV n)])] (.bool (!(zKD n.h x))):=by
 refine zAd Tryz.f221 ?_;refine zAj 2<|zAl 2<|S_a [(7,.ret (bool (zKD n.h x)) [])] (ap (f196 n x (by omega)) an)<|S_g 2<|zAn E_0
theorem f202_1(n:Nw)(hb:1<=n.h/\n.h<=10)(l:LP)(hl:l.length<4294967296):FG 202 [.sl (l.map prV),.func 221 [] [.ref (.func 196 [] [.ref (nwV n)])]] (I (zDZ (fun x=>!(zKD n.h x)) l)):=by
 refine zAd Tryz.f202 ?_;refine zAj 1<|zAc<|zAl 1<|S_a [(0,.n l.length)] (ap (lnS prV l) an)<|S_g 1<|zAf 0 ?_
 refine zAr (fun i=>i<=l.length/\∀ j,j<i->(fun x=>!(zKD n.h x)) (l.getD j d0)=false) (fun i=>[(8,I (i:Nat))]) (fun i=>l.length-i) (0:Nat) (by simp) fun i ⟨hi,ha⟩=>?_;refine zAj 1<|zAc<|zCN ((i:Int)<(l.length:Int)) (fun k0=>(zAh<|zAc<|zAf 1<|zAj 2<|zAl 3<|S_a [(2,.v (prV (l.getD i d0)))] (ap (zBN d0 (by omega):(map prV l)[i]? = some (prV (l.getD i d0))) an)<|zAm 1<|S_a [(7,.ret (bool !zKD n.h (l.getD i d0)) [])] (ap (f221_1 n (by omega) (l.getD i d0)) an)<|zA3<|zEx (!zKD n.h (l.getD i d0)) (fun k1=>(zAj 2<|zAn<|E_a [] an (I (i:Int)) [] ?_ rfl)) (fun k1=>(zAh<|zAb<|S_i i<|S_g 1 ?_)))) (fun k0=>(zAD 0<|zAj 1<|zAn<|E_a [] an (I (-1)) [] ?_ rfl))
 ·rw[zBG (i:=i) (by omega) (fun j hj=>by rw[<- zAu (d:=d0)];exact ha j hj) (by rw[<- zAu (d:=d0)];first|assumption|exact decide_eq_true ‹_›|(simp only[bG,decide_eq_false_iff_not];assumption))]
 ·refine⟨i+1,⟨by omega,fun j hj=>?_⟩,by omega,by kernel_rfl,by kernel_rfl⟩;rcases bP.1 hj with h|rfl
  ·exact ha j h
  ·first|assumption|exact decide_eq_false ‹_›|(simp only[bE,decide_eq_true_eq];first|assumption|(apply cR;assumption))
 ·rw[zBY fun j hj=>by rw[<- zAu (d:=d0)];exact ha j (by omega)]
theorem f156_1(n:Nw)(hb:1<=n.h/\n.h<=10)(l:LP)(hl:l.length<4294967296):FG 156 [.sl (l.map prV),.func 221 [] [.ref (.func 196 [] [.ref (nwV n)])]] (.bool (l.any (fun x=>!(zKD n.h x)))):=by
 refine zAd Tryz.f156 ?_;refine zAj 1<|zAl 2<|S_a [(7,.ret (I (zDZ (fun x=>!zKD n.h x) l)) [])] (ap (f202_1 n (by omega) l (by omega)) an)<|S_g 2<|zAn<|E_a [] an (bool (decide (zDZ (fun x=>!zKD n.h x) l>=0))) [] ?_ rfl
 rw[zDy]
theorem f195_1(n:Nw)(hb:1<=n.h/\n.h<=10)(l:LP)(hl:l.length<4294967296):FG 195 [.sl (l.map prV),.func 196 [] [.ref (nwV n)]] (.bool (l.all (fun x=>zKD n.h x))):=by
 refine zAd Tryz.f195 ?_;refine zAj 2<|zAl 2<|S_a [(12,.ret (bool (l.any fun x=>!zKD n.h x)) [])] (ap (f156_1 n (by omega) l (by omega)) an)<|S_g 2<|zAn<|E_a [] an (bool !l.any fun x=>!zKD n.h x) [] ?_ rfl
 simp[cX]
theorem f221_2(x:Int×Int):FG 221 [prV x,.ref (.func 197 [] [])] (.bool (!(zKN x))):=by
 refine zAd Tryz.f221 ?_;refine zAj 2<|zAl 2<|S_a [(6,.ret (bool (zKN x)) [])] (ap (f197 x) an)<|S_g 2<|zAn E_0
theorem f202_2(l:LP)(hl:l.length<4294967296):FG 202 [.sl (l.map prV),.func 221 [] [.ref (.func 197 [] [])]] (I (zDZ (fun x=>!(zKN x)) l)):=by
 refine zAd Tryz.f202 ?_;refine zAj 1<|zAc<|zAl 1<|S_a [(0,.n l.length)] (ap (lnS prV l) an)<|S_g 1<|zAf 0 ?_
 refine zAr (fun i=>i<=l.length/\∀ j,j<i->(fun x=>!(zKN x)) (l.getD j d0)=false) (fun i=>[(8,I (i:Nat))]) (fun i=>l.length-i) (0:Nat) (by simp) fun i ⟨hi,ha⟩=>?_;refine zAj 1<|zAc<|zCN ((i:Int)<(l.length:Int)) (fun k0=>(zAh<|zAc<|zAf 1<|zAj 2<|zAl 3<|S_a [(2,.v (prV (l.getD i d0)))] (ap (zBN d0 (by omega):(map prV l)[i]? = some (prV (l.getD i d0))) an)<|zAm 1<|S_a [(7,.ret (bool !zKN (l.getD i d0)) [])] (ap (f221_2 (l.getD i d0)) an)<|zA3<|zEx (!zKN (l.getD i d0)) (fun k1=>(zAj 2<|zAn<|E_a [] an (I (i:Int)) [] ?_ rfl)) (fun k1=>(zAh<|zAb<|S_i i<|S_g 1 ?_)))) (fun k0=>(zAD 0<|zAj 1<|zAn<|E_a [] an (I (-1)) [] ?_ rfl))
 ·rw[zBG (i:=i) (by omega) (fun j hj=>by rw[<- zAu (d:=d0)];exact ha j hj) (by rw[<- zAu (d:=d0)];first|assumption|exact decide_eq_true ‹_›|(simp only[bG,decide_eq_false_iff_not];assumption))]
 ·refine⟨i+1,⟨by omega,fun j hj=>?_⟩,by omega,by kernel_rfl,by kernel_rfl⟩;rcases bP.1 hj with h|rfl
  ·exact ha j h
  ·first|assumption|exact decide_eq_false ‹_›|(simp only[bE,decide_eq_true_eq];first|assumption|(apply cR;assumption))
 ·rw[zBY fun j hj=>by rw[<- zAu (d:=d0)];exact ha j (by omega)]
theorem f156_2(l:LP)(hl:l.length<4294967296):FG 156 [.sl (l.map prV),.func 221 [] [.ref (.func 197 [] [])]] (.bool (l.any (fun x=>!(zKN x)))):=by
 refine zAd Tryz.f156 ?_;refine zAj 1<|zAl 2<|S_a [(7,.ret (I (zDZ (fun x=>!zKN x) l)) [])] (ap (f202_2 l (by omega)) an)<|S_g 2<|zAn<|E_a [] an (bool (decide (zDZ (fun x=>!zKN x) l>=0))) [] ?_ rfl
 rw[zDy]
theorem f195_2(l:LP)(hl:l.length<4294967296):FG 195 [.sl (l.map prV),.func 197 [] []] (.bool (l.all (fun x=>zKN x))):=by
 refine zAd Tryz.f195 ?_;refine zAj 2<|zAl 2<|S_a [(12,.ret (bool (l.any fun x=>!zKN x)) [])] (ap (f156_2 l (by omega)) an)<|S_g 2<|zAn<|E_a [] an (bool !l.any fun x=>!zKN x) [] ?_ rfl
 simp[cX]
theorem f222_1(y:Int)(yb:Bool)(l:List (Int×Bool))(hl:l.length<4294967296):FG 222 [.sl (l.map ntV),.func 199 [] [.ref (.agg [I y,.bool yb])]] (I (zDZ (fun x=>decide (x.1=y)) l)):=by
 refine zAd Tryz.f222 ?_;refine zAj 1<|zAc<|zAl 1<|S_a [(0,.n l.length)] (ap (lnS ntV l) an)<|S_g 1<|zAf 0 ?_
 refine zAr (fun i=>i<=l.length/\∀ j,j<i->(fun x=>decide (x.1=y)) (l.getD j d0)=false) (fun i=>[(8,I (i:Nat))]) (fun i=>l.length-i) (0:Nat) (by simp) fun i ⟨hi,ha⟩=>?_;refine zAj 1<|zAc<|zCN ((i:Int)<(l.length:Int)) (fun k0=>(zAh<|zAc<|zAf 1<|zAj 2<|zAl 3<|S_a [(2,.v (agg [I (l.getD i d0).fst,bool (l.getD i d0).snd]))] (ap (zBN d0 (by omega):(map ntV l)[i]? = some (agg [I (l.getD i d0).fst,bool (l.getD i d0).snd])) an)<|zAm 1<|S_a [(7,.ret (bool (decide ((l.getD i d0).fst=(y,yb).fst))) [])] (ap (f199 ((y,yb)) (l.getD i d0)) an)<|zA3<|zCN ((l.getD i d0).fst=(y,yb).fst) (fun k1=>(zAj 2<|zAn<|E_a [] an (I (i:Int)) [] ?_ rfl)) (fun k1=>(zAh<|zAb<|S_i i<|S_g 1 ?_)))) (fun k0=>(zAD 0<|zAj 1<|zAn<|E_a [] an (I (-1)) [] ?_ rfl))
 ·rw[zBG (i:=i) (by omega) (fun j hj=>by rw[<- zAu (d:=d0)];exact ha j hj) (by rw[<- zAu (d:=d0)];first|assumption|exact decide_eq_true ‹_›|(simp only[bG,decide_eq_false_iff_not];assumption))]
 ·refine⟨i+1,⟨by omega,fun j hj=>?_⟩,by omega,by kernel_rfl,by kernel_rfl⟩;rcases bP.1 hj with h|rfl
  ·exact ha j h
  ·first|assumption|exact decide_eq_false ‹_›|(simp only[bE,decide_eq_true_eq];first|assumption|(apply cR;assumption))
 ·rw[zBY fun j hj=>by rw[<- zAu (d:=d0)];exact ha j (by omega)]
theorem f198_1(y:Int)(yb:Bool)(l:List (Int×Bool))(hl:l.length<4294967296):FG 198 [.sl (l.map ntV),.func 199 [] [.ref (.agg [I y,.bool yb])]] (.bool (l.any (fun x=>decide (x.1=y)))):=by
 refine zAd Tryz.f198 ?_;refine zAj 1<|zAl 2<|S_a [(7,.ret (I (zDZ (fun x=>decide (x.fst=y)) l)) [])] (ap (f222_1 y yb l (by omega)) an)<|S_g 2<|zAn<|E_a [] an (bool (decide (zDZ (fun x=>decide (x.fst=y)) l>=0))) [] ?_ rfl
 rw[zDy]
theorem f150(n:Nw)(hb:1<=n.h/\n.h<=10)(hl:n.l.length<=15):FG 150 [nwV n] (I (zCQ n.h n.l)):=by
 refine zAd Tryz.f150 ?_;refine zAj 2<|zAc<|zAf 0<|zAl 3<|S_a [(13,.ret (bool (n.l.all fun x=>zKD n.h x)) [])] (ap (f195_1 n (by omega) n.l (by omega)) an)<|S_g 2<|zEx (!n.l.all fun x=>zKD n.h x) (fun k0=>(zAj 1<|zAn<|E_a [] an (I 1) [] ?_ rfl)) (fun k0=>(zAl 2<|S_a [(7,.ret (bool (n.l.all fun x=>zKN x)) [])] (ap (f195_2 n.l (by omega)) an)<|S_g 2<|zEx (!n.l.all fun x=>zKN x) (fun k1=>(zAj 1<|zAn<|E_a [] an (I 8) [] ?_ rfl)) (fun k1=>(zAh<|zAj 2<|zAc<|zAl 2<|S_a [(0,.n n.l.length)] (ap (lnS prV n.l) an)<|S_g 1<|zAf 1 ?_))))
 ·rw[bG] at k0;simp[zCQ,k0]
 ·rw[bE] at k0;rw[bG] at k1;simp[zCQ,k0,k1]
 ·refine zAr (fun(i,M)=>i<=n.l.length/\M=(n.l.take i).map pr2/\M.Nodup) (fun(i,M)=>[(3,.omap (M.map zDW)),(21,I (i:Nat))]) (fun(i,_)=>n.l.length-i) ((0:Nat),([]:LP)) ⟨bN _,rfl,b8⟩ fun(i,M) ⟨hi,hM,hN⟩=>?_;by_cases yR:i<n.l.length
  ·have yM:(n.l.take (i+1)).map pr2=M++[pr2 (n.l.getD i d0)]:=by rw[zB5 (d:=d0) yR,cT,<- hM];rfl
   by_cases hin:pr2 (n.l.getD i d0)∈M
   ·obtain⟨j,hj,yB⟩:=zSi hin;have yj:zD4 (M.map zDW) j=some (.bool true):=by simp[zD4,hj]
    refine zAj 1<|zAc<|zAM ((i:Int)<(n.l.length:Int)) (by omega)<|zAh<|zAc<|zAf 2<|zAc<|zAb<|S_a [(2,.v (prV (n.l.getD i d0)))] (ap (zBN d0 (by omega):(map prV n.l)[i]? = some (prV (n.l.getD i d0))) an)<|S_g 3<|zAc<|zAl 2<|S_a [(6,.ret (prV (pr2 (n.l.getD i d0))) [])] (ap (f110 (n.l.getD i d0)) an)<|S_a [(3,.ix (some j)),(0,.v (bool true))] (ap yB<|ap (yj:zD4 (map zDW M) j=some (bool true)) an)<|zA3<|zCy<|zAj 1<|zAn<|E_a [] an (I 5) [] ?_ rfl
    rw[bE] at k0 k1;have y6:¬ (n.l.map pr2).Nodup:=fun h=>by
     rw[<- cw (i+1) n.l,cT,yM] at h;have h2:=(bK.1 h).1;have h3:=(bK.1 h2).2.2;exact h3 _ hin _ (bk.2 rfl) rfl
    simp only[zCQ,k0,k1,y6,if_true,if_false]
   ·have yB:=zMe hin;refine zAj 1<|zAc<|zAM ((i:Int)<(n.l.length:Int)) (by omega)<|zAh<|zAc<|zAf 2<|zAc<|zAb<|S_a [(2,.v (prV (n.l.getD i d0)))] (ap (zBN d0 (by omega):(map prV n.l)[i]? = some (prV (n.l.getD i d0))) an)<|S_g 3<|zAc<|zAl 2<|S_a [(6,.ret (prV (pr2 (n.l.getD i d0))) [])] (ap (f110 (n.l.getD i d0)) an)<|S_a [(3,.ix none)] (ap yB an)<|zA3<|zAB<|zAh<|zAb<|zAm 2<|S_a [(6,.ret (prV (pr2 (n.l.getD i d0))) [])] (ap (f110 (n.l.getD i d0)) an)<|S_a [(4,.ix none),(0,.v (omap (map zDW (M++[pr2 (n.l.getD i d0)]))))] (ap yB<|ap ((by simp):omap (map zDW M++[(prV (pr2 (n.l.getD i d0)),bool true)])=omap (map zDW (M++[pr2 (n.l.getD i d0)]))) an)<|zA3<|zAb<|S_i i<|S_g 1 ?_
    refine⟨(i+1,M++[pr2 (n.l.getD i d0)]),⟨by omega,yM.symm,?_⟩,by simp only;omega,by kernel_rfl,by kernel_rfl⟩;rw[bK];refine⟨hN,by simp,fun a ha b hb=>?_⟩;rw[bk] at hb;subst hb;intro e;subst e;exact hin ha
  ·refine zAj 1<|zAc<|zAQ ((i:Int)<(n.l.length:Int)) (by omega)<|zAD 1<|zAj 1<|zAn<|E_a [] an (I 0) [] ?_ rfl
   rw[bE] at k0 k1;rw[bw (by omega)] at hM;rw[hM] at hN;simp only[zCQ,k0,k1,hN,if_true]
theorem f151(n:Nw)(hl:n.n.length<=8):FG 151 [nwV n] (I (zD9 n.n)):=by
 refine zAd Tryz.f151 ?_;refine zAj 2<|zAc<|zAl 2<|S_a [(0,.n n.n.length)] (ap (lnS ntV n.n) an)<|S_g 1<|zAf 0 ?_
 refine zAr (fun i=>i<=n.n.length/\∀ j,j<i->inB (n.n.getD j d0).1 (-1) ((j:Int)-1)=true) (fun i=>[(10,I (i:Nat))]) (fun i=>n.n.length-i) (0:Nat) ⟨bN _,fun j h=>absurd h (cD _)⟩ fun i ⟨hi,ha⟩=>?_;refine zAj 1<|zAc<|zCN ((i:Int)<(n.n.length:Int)) (fun k0=>(zAh<|zAc<|zAf 1<|zAl 1<|S_a [(2,.v (agg [I (n.n.getD i d0).fst,bool (n.n.getD i d0).snd]))] (ap (zBN d0 (by omega):(map ntV n.n)[i]? = some (agg [I (n.n.getD i d0).fst,bool (n.n.getD i d0).snd])) an)<|S_g 4<|zAl 3<|S_a [(1,.v (I ((i:Int)-1)))] (ap ((zBW rfl (by omega)):I (IntKind.i64.wrap ((i:Int)-1))=I ((i:Int)-1)) an)<|S_a [(10,.ret (bool (inB (n.n.getD i d0).fst (-1) ((i:Int)-1))) [])] (ap (f107 ((n.n.getD i d0).fst) (-1) ((i:Int)-1)) an)<|S_g 1<|zEx (!inB (n.n.getD i d0).fst (-1) ((i:Int)-1)) (fun k1=>(zAj 1<|zAn<|E_a [] an (I 1) [] ?_ rfl)) (fun k1=>(zAh<|zAb<|S_i i<|S_g 1 ?_)))) (fun k0=>(zAD 0<|zAc<|zAl 2<|S_a [(0,.n n.n.length)] (ap (lnS ntV n.n) an)<|S_g 1<|zAf 2 ?_))
 ·rw[bG] at k1;have:zUe n.n=false:=by
   simp only[zUe,ii];exact⟨i,bF.2 (by omega),by simpa using k1⟩
  simp[zD9,this]
 ·rw[bE] at k1;refine⟨i+1,⟨by omega,fun j hj=>?_⟩,by omega,by kernel_rfl,by kernel_rfl⟩;rcases bP.1 hj with h|rfl
  ·exact ha j h
  ·exact k1
 ·have hin:zUe n.n=true:=by
   simp only[zUe,bi,bF];exact fun j hj=>ha j (by omega)
  clear ha;refine zAr (fun i=>i<=n.n.length/\∀ j,j<i->zNc n.n j=false) (fun i=>[(25,I (i:Nat))]) (fun i=>n.n.length-i) (0:Nat) ⟨bN _,fun j h=>absurd h (cD _)⟩ fun k ⟨hk,hb⟩=>?_;have yM:zNc n.n k=false->∀ j,j<k+1->zNc n.n j=false:=fun h j hj=>by
   rcases bP.1 hj with h2|rfl
   ·exact hb j h2
   ·exact h
  refine zAj 1<|zAc<|zCN ((k:Int)<(n.n.length:Int)) (fun k2=>(zAh<|zAc<|zAf 3<|zAl 1<|S_a [(2,.v (agg [I (n.n.getD k d0).fst,bool (n.n.getD k d0).snd]))] (ap (zBN d0 (by omega):(map ntV n.n)[k]? = some (agg [I (n.n.getD k d0).fst,bool (n.n.getD k d0).snd])) an)<|S_g 4<|zAl 4<|zYN 33 ((n.n.getD k d0).fst = -1) (fun k3=>(zAm 3<|S_a [(3,.ob),(0,.ob),(0,.v (sl (map ntV (take k n.n))))] (ap ((by exact zAR (by simp only[be,zzLn,zAO]<;>omega)):k.ble (map ntV n.n).length=true)<|ap ((by exact all_map _):((map ntV n.n).all fun x=>x.cells.length.beq ((fun x=>x.size) Tryz.prog.types[99]))=true)<|ap ((by simp):sl (take k (drop 0 (map ntV n.n)))=sl (map ntV (take k n.n))) an)<|zAm 1<|S_a [(13,.ret (bool ((take k n.n).any fun x=>decide (x.fst=(n.n.getD k d0).fst))) [])] (ap (f198_1 ((n.n.getD k d0).fst) ((n.n.getD k d0).snd) (take k n.n) (by first|omega|(simp<;>omega))) an)<|S_g 1<|zEx ((take k n.n).any fun x=>decide (x.fst=(n.n.getD k d0).fst)) (fun k4=>(zAj 1<|zAn<|E_a [] an (I 5) [] ?_ rfl)) (fun k4=>(zAh<|zAb<|S_i k<|S_g 1 ?_)))) (fun k3=>(S_g 7<|zAB<|zAh<|zAb<|S_i k<|S_g 1 ?_)))) (fun k2=>(zAD 2<|zAj 1<|zAn<|E_a [] an (I 0) [] ?_ rfl))
  ·have h1:zNc n.n k=true:=by
    have k4:((n.n.take k).any fun y=>decide (y.1=(n.n.getD k d0).1))=true:=k4;simp only[zNc,k4,fb,decide_eq_true_eq];assumption
   have:(range n.n.length).any (zNc n.n)=true:=bX.2 ⟨k,bF.2 (by omega),h1⟩;simp only[zD9,hin,this,if_true]
  ·have h1:zNc n.n k=false:=by
    have k4:((n.n.take k).any fun y=>decide (y.1=(n.n.getD k d0).1))=false:=k4;simp only[zNc,k4,fi]
   exact rnd (k+1) ⟨by omega,yM h1⟩ (by omega)
  ·have h1:zNc n.n k=false:=by
    simp only[zNc,fh,decide_eq_false_iff_not];exact .inl (by simpa using k3)
   exact rnd (k+1) ⟨by omega,yM h1⟩ (by omega)
  ·have:(range n.n.length).any (zNc n.n)=false:=by
    simp only[dG,bF,cA];exact fun j hj=>hb j (by omega)
   simp only[zD9,hin,this,if_true];rfl
theorem f153(n:Nw)(l:LI)(hb:1<=n.h/\n.h<=10)(hl:l.length<1000000):FG 153 [zBT l,.ref (nwV n)] (.bool (zMD n.h l)):=by
 refine zAd Tryz.f153 ?_;refine zAj 1<|zAl 3<|S_a [(7,.ret (bool (l.all fun x=>inB x 0 (n.h-1))) [])] (ap (f108_1 n (by omega) l (by omega)) an)<|S_g 1<|zAn E_0
theorem f154(l:LI)(hl:l.length<1000000):FG 154 [zBT l] (.bool (zEv l)):=by
 refine zAd Tryz.f154 ?_;refine zAj 1<|zAl 1<|S_a [(6,.ret (bool (zFZ l)) [])] (ap (f155 l (by omega)) an)<|zAm 1<|zGK 5 (zFZ l) (fun k0=>(zAm 1<|S_a [(6,.ret (own 1 (map I l)) [])] (ap (f65 l (by omega)) an)<|S_a [(3,.ob),(1,.v (own 1 (map I l))),(2,.ret (own 1 (map I (zHk l))) [])] (ap ((by exact zAR (by simp only[be,zzLn,zAO]<;>omega)):(map I l).length.ble (map I l).length=true)<|ap ((zAT zA6):own 1 (take (map I l).length (drop 0 (map I l)))=own 1 (map I l))<|ap (f97 l (by omega)) an)<|S_a [(0,.n ((zHk l).length))] (ap (lnS I (zHk l)) an)<|zAm 1<|S_a [(0,.n l.length)] (ap (lnS I l) an)<|S_g 3<|zAn<|E_a [] an (bool ((↑(zHk l).length:Int)==(l.length:Int))) [] ?_ rfl)) (fun k0=>(S_g 9<|zAn<|E_a [] an (bool false) [] ?_ rfl))
 ·simp only[zEv,k0,cy];congr 1;rw[co];simp;omega
 ·simp only[zEv,k0,dB]
theorem f201_1(n:Nw)(hb:1<=n.h/\n.h<=10)(x:LI)(hx:x.length<1000000):FG 201 [zBT x,.ref (.func 153 [] [.ref (nwV n)])] (.bool (!(zMD n.h x))):=by
 refine zAd Tryz.f201 ?_;refine zAj 1<|zAl 2<|S_a [(7,.ret (bool (zMD n.h x)) [])] (ap (f153 n x (by omega) (by omega)) an)<|S_g 2<|zAn E_0
theorem f223_1(n:Nw)(hb:1<=n.h/\n.h<=10)(l:List LI)(hl:l.length<4294967296)(hr:∀ x∈l,x.length<1000000):FG 223 [.sl (l.map zBT),.func 201 [] [.ref (.func 153 [] [.ref (nwV n)])]] (I (zDZ (fun x=>!(zMD n.h x)) l)):=by
 refine zAd Tryz.f223 ?_;refine zAj 1<|zAc<|zAl 1<|S_a [(0,.n l.length)] (ap (lnS zBT l) an)<|S_g 1<|zAf 0 ?_
 refine zAr (fun i=>i<=l.length/\∀ j,j<i->(fun x=>!(zMD n.h x)) (l.getD j [])=false) (fun i=>[(8,I (i:Nat))]) (fun i=>l.length-i) (0:Nat) (by simp) fun i ⟨hi,ha⟩=>?_;by_cases yR:i<l.length
 ·have gV:=zCl (d:=[]) hr i yR;refine zAj 1<|zAc<|zAM ((i:Int)<(l.length:Int)) (by omega)<|zAh<|zAc<|zAf 1<|zAj 2<|zAl 3<|S_a [(2,.v (zBT (l.getD i [])))] (ap (zBN [] (by omega):(map zBT l)[i]? = some (zBT (l.getD i []))) an)<|zAm 1<|S_a [(7,.ret (bool !zMD n.h (l.getD i [])) [])] (ap (f201_1 n (by omega) (l.getD i []) (by omega)) an)<|zA3<|zEx (!zMD n.h (l.getD i [])) (fun k0=>(zAj 2<|zAn<|E_a [] an (I (i:Int)) [] ?_ rfl)) (fun k0=>(zAh<|zAb<|S_i i<|S_g 1 ?_))
  ·rw[zBG (i:=i) yR (fun j hj=>by rw[<- zAu (d:=[])];exact ha j hj) (by rw[<- zAu (d:=[])];first|assumption|exact decide_eq_true ‹_›)]
  ·refine⟨i+1,⟨by omega,fun j hj=>?_⟩,by omega,by kernel_rfl,by kernel_rfl⟩;rcases bP.1 hj with h|rfl
   ·exact ha j h
   ·first|assumption|exact decide_eq_false ‹_›|(simp only[bE,decide_eq_true_eq];assumption)
 ·refine zAj 1<|zAc<|zAQ ((i:Int)<(l.length:Int)) (by omega)<|zAD 0<|zAj 1<|zAn<|E_a [] an (I (-1)) [] ?_ rfl
  rw[zBY fun j hj=>by rw[<- zAu (d:=[])];exact ha j (by omega)]
theorem f200_1(n:Nw)(hb:1<=n.h/\n.h<=10)(l:List LI)(hl:l.length<4294967296)(hr:∀ x∈l,x.length<1000000):FG 200 [.sl (l.map zBT),.func 201 [] [.ref (.func 153 [] [.ref (nwV n)])]] (.bool (l.any (fun x=>!(zMD n.h x)))):=by
 refine zAd Tryz.f200 ?_;refine zAj 1<|zAl 2<|S_a [(7,.ret (I (zDZ (fun x=>!zMD n.h x) l)) [])] (ap (f223_1 n (by omega) l (by omega) (by omega)) an)<|S_g 2<|zAn<|E_a [] an (bool (decide (zDZ (fun x=>!zMD n.h x) l>=0))) [] ?_ rfl
 rw[zDy]
theorem f152_1(n:Nw)(hb:1<=n.h/\n.h<=10)(l:List LI)(hl:l.length<4294967296)(hr:∀ x∈l,x.length<1000000):FG 152 [.sl (l.map zBT),.func 153 [] [.ref (nwV n)]] (.bool (l.all (fun x=>zMD n.h x))):=by
 refine zAd Tryz.f152 ?_;refine zAj 2<|zAl 2<|S_a [(12,.ret (bool (l.any fun x=>!zMD n.h x)) [])] (ap (f200_1 n (by omega) l (by omega) (by omega)) an)<|S_g 2<|zAn<|E_a [] an (bool !l.any fun x=>!zMD n.h x) [] ?_ rfl
 simp[cX]
theorem f201_2(x:LI)(hx:x.length<1000000):FG 201 [zBT x,.ref (.func 154 [] [])] (.bool (!(zEv x))):=by
 refine zAd Tryz.f201 ?_;refine zAj 1<|zAl 2<|S_a [(6,.ret (bool (zEv x)) [])] (ap (f154 x (by omega)) an)<|S_g 2<|zAn E_0
theorem f223_2(l:List LI)(hl:l.length<4294967296)(hr:∀ x∈l,x.length<1000000):FG 223 [.sl (l.map zBT),.func 201 [] [.ref (.func 154 [] [])]] (I (zDZ (fun x=>!(zEv x)) l)):=by
 refine zAd Tryz.f223 ?_;refine zAj 1<|zAc<|zAl 1<|S_a [(0,.n l.length)] (ap (lnS zBT l) an)<|S_g 1<|zAf 0 ?_
 refine zAr (fun i=>i<=l.length/\∀ j,j<i->(fun x=>!(zEv x)) (l.getD j [])=false) (fun i=>[(8,I (i:Nat))]) (fun i=>l.length-i) (0:Nat) (by simp) fun i ⟨hi,ha⟩=>?_;by_cases yR:i<l.length
 ·have gV:=zCl (d:=[]) hr i yR;refine zAj 1<|zAc<|zAM ((i:Int)<(l.length:Int)) (by omega)<|zAh<|zAc<|zAf 1<|zAj 2<|zAl 3<|S_a [(2,.v (zBT (l.getD i [])))] (ap (zBN [] (by omega):(map zBT l)[i]? = some (zBT (l.getD i []))) an)<|zAm 1<|S_a [(7,.ret (bool !zEv (l.getD i [])) [])] (ap (f201_2 (l.getD i []) (by omega)) an)<|zA3<|zEx (!zEv (l.getD i [])) (fun k0=>(zAj 2<|zAn<|E_a [] an (I (i:Int)) [] ?_ rfl)) (fun k0=>(zAh<|zAb<|S_i i<|S_g 1 ?_))
  ·rw[zBG (i:=i) yR (fun j hj=>by rw[<- zAu (d:=[])];exact ha j hj) (by rw[<- zAu (d:=[])];first|assumption|exact decide_eq_true ‹_›)]
  ·refine⟨i+1,⟨by omega,fun j hj=>?_⟩,by omega,by kernel_rfl,by kernel_rfl⟩;rcases bP.1 hj with h|rfl
   ·exact ha j h
   ·first|assumption|exact decide_eq_false ‹_›|(simp only[bE,decide_eq_true_eq];assumption)
 ·refine zAj 1<|zAc<|zAQ ((i:Int)<(l.length:Int)) (by omega)<|zAD 0<|zAj 1<|zAn<|E_a [] an (I (-1)) [] ?_ rfl
  rw[zBY fun j hj=>by rw[<- zAu (d:=[])];exact ha j (by omega)]
theorem f200_2(l:List LI)(hl:l.length<4294967296)(hr:∀ x∈l,x.length<1000000):FG 200 [.sl (l.map zBT),.func 201 [] [.ref (.func 154 [] [])]] (.bool (l.any (fun x=>!(zEv x)))):=by
 refine zAd Tryz.f200 ?_;refine zAj 1<|zAl 2<|S_a [(7,.ret (I (zDZ (fun x=>!zEv x) l)) [])] (ap (f223_2 l (by omega) (by omega)) an)<|S_g 2<|zAn<|E_a [] an (bool (decide (zDZ (fun x=>!zEv x) l>=0))) [] ?_ rfl
 rw[zDy]
theorem f152_2(l:List LI)(hl:l.length<4294967296)(hr:∀ x∈l,x.length<1000000):FG 152 [.sl (l.map zBT),.func 154 [] []] (.bool (l.all (fun x=>zEv x))):=by
 refine zAd Tryz.f152 ?_;refine zAj 2<|zAl 2<|S_a [(12,.ret (bool (l.any fun x=>!zEv x)) [])] (ap (f200_2 l (by omega) (by omega)) an)<|S_g 2<|zAn<|E_a [] an (bool !l.any fun x=>!zEv x) [] ?_ rfl
 simp[cX]
theorem f76(n:Nw)(hs:Small n):FG 76 [nwV n] (I (zG4 n)):=by
 refine zAd Tryz.f76 ?_;have h1:=hs.hl;have h2:=hs.hn;have h3:=hs.hs;have h4:=hs.hr;refine zAj 2<|zAc<|zAl 2<|S_a [(10,.ret (bool (inB n.h 1 10)) [])] (ap (f107 n.h (1) (10)) an)<|zAm 2<|zGK 9 (!inB n.h 1 10) (fun k0=>(S_g 19<|zCy<|zAj 1<|zAn<|E_a [] an (I 2) [] ?_ rfl)) (fun k0=>(zAm 2<|S_a [(0,.n n.l.length)] (ap (lnS prV n.l) an)<|zAm 3<|zNU 15 ((n.l.length:Int)>15) (fun k1=>(S_g 13<|zCy<|zAj 1<|zAn<|E_a [] an (I 2) [] ?_ rfl)) (fun k1=>(zAm 2<|S_a [(0,.n n.n.length)] (ap (lnS ntV n.n) an)<|S_a [(10,.ret (bool (inB (n.n.length:Int) 1 8)) [])] (ap (f107 ((n.n.length:Int)) (1) (8)) an)<|zAm 3<|zGK 22 (!inB (n.n.length:Int) 1 8) (fun k2=>(S_g 6<|zCy<|zAj 1<|zAn<|E_a [] an (I 2) [] ?_ rfl)) (fun k2=>(zAm 2<|S_a [(0,.n n.s.length)] (ap (lnS zBT n.s) an)<|S_a [(10,.ret (bool (inB (n.s.length:Int) 1 6)) [])] (ap (f107 ((n.s.length:Int)) (1) (6)) an)<|S_g 2<|zEx (!inB (n.s.length:Int) 1 6) (fun k3=>(zAj 1<|zAn<|E_a [] an (I 2) [] ?_ rfl)) (fun k3=>(zAh<|zAc<|zAl 1<|S_a [(6,.ret (I (zCQ n.h n.l)) [])] (ap (f150 n ?_ (by first|omega|(simp<;>omega))) an)<|S_g 1<|zAj 2<|zEk (zCQ n.h n.l=0) (fun k4=>(zAj 2<|zAn<|E_a [] an (I (zCQ n.h n.l)) [] ?_ rfl)) (fun k4=>(zAh<|zAc<|zAl 1<|S_a [(6,.ret (I (zD9 n.n)) [])] (ap (f151 n ?_) an)<|S_g 1<|zAj 2<|zEk (zD9 n.n=0) (fun k5=>(zAj 2<|zAn<|E_a [] an (I (zD9 n.n)) [] ?_ rfl)) (fun k5=>(zAh<|zAc<|zAf 0<|zAl 3<|S_a [(13,.ret (bool (n.s.all fun x=>zMD n.h x)) [])] (ap (f152_1 n ?_ n.s (by omega) (by omega)) an)<|S_g 2<|zEx (!n.s.all fun x=>zMD n.h x) (fun k6=>(zAj 1<|zAn<|E_a [] an (I 1) [] ?_ rfl)) (fun k6=>(zAl 2<|S_a [(7,.ret (bool (n.s.all fun x=>zEv x)) [])] (ap (f152_2 n.s (by omega) (by omega)) an)<|S_g 2<|zEx (!n.s.all fun x=>zEv x) (fun k7=>(zAj 1<|zAn<|E_a [] an (I 4) [] ?_ rfl)) (fun k7=>(zAh<|zAj 1<|zAn<|E_a [] an (I 0) [] ?_ rfl))))))))))))))))
 all_goals first|exact zYu k0|(have:=zYu k2;omega)|(simp[zG4, *];done)
end
end Go.Eng
set_option maxRecDepth 10000
set_option maxHeartbeats 4000000
namespace Go.Eng
open Go Go.Proofs
theorem zR0{l:LI}:∀ k,k<=l.length->(zHk (l.take k)).length<=k/\((∃ j,1<=j/\j<k/\l.getD j 0=l.getD (j-1) 0)->(zHk (l.take k)).length<k)
 |0,_=>⟨by simp[zHk],fun⟨j,h1,h2,_⟩=>by omega⟩
 | k + 1,hk=>by
  obtain⟨h1,h2⟩:=zR0 (l:=l) k (by omega)
  cases k with
  |zero=>
   rw[zHw (show 0<l.length by omega)];exact⟨by simp[zHk,zXl],fun⟨j,h1,h2,_⟩=>by omega⟩
  | succ k =>
   rw[zHu (by omega) (by omega)];split
   ·exact⟨by omega,fun _=>by omega⟩
   ·rename_i hI;refine⟨by rw[bu];simp;omega,fun⟨j,g1,g2,g3⟩=>?_⟩;have hj:j<k+1:=by
     by_cases h:j=k+1
     ·subst h;exact absurd g3 hI
     ·omega
    have:=h2 ⟨j,g1,hj,g3⟩;rw[bu];simp;omega
theorem zT3{l:LI}(h:zFZ l=true)(j:Nat)(hj:j+1<l.length):l.getD j 0<=l.getD (j+1) 0:=by
 simp only[zFZ,bi,bF,decide_eq_true_eq] at h;exact h j (by omega)
theorem zK4{l:LI}:zEv l=zT2 l:=by
 rw[co];constructor
 ·intro h;simp only[zEv,bb,decide_eq_true_eq] at h;simp only[zT2,bi,bF,decide_eq_true_eq];intro j hj;have h1:=zT3 h.1 j (by omega);have h2:=(zR0 (l:=l) l.length (bf _)).2;rw[dt] at h2;by_cases he:l.getD (j+1) 0=l.getD j 0
  ·have:=h2 ⟨j+1,by omega,by omega,by simpa using he⟩;omega
  ·omega
 ·intro h;simp only[zT2,bi,bF,decide_eq_true_eq] at h;simp only[zEv,zFZ,bb,decide_eq_true_eq,bi,bF];refine⟨fun j hj=>by have:=h j hj;omega,?_⟩;have:=zHr (l:=l) l.length (bf _) fun j h1 h2=>by
   have:=h (j-1) (by omega);rw[show j-1+1=j by omega] at this;omega
  rw[dt] at this;rw[this]
structure NwOk (n:Nw):Prop where
 err:zG4 n=0
 h:1<=n.h/\n.h<=10
 ll:n.l.length<=15
 nl:1<=n.n.length/\n.n.length<=8
 sl:1<=n.s.length/\n.s.length<=6
 lr:∀ x∈n.l,(0<=x.1/\x.1<n.h)/\(0<=x.2/\x.2<n.h)
 lne:∀ x∈n.l,x.1≠x.2
 ld:(n.l.map pr2).Nodup
 na:∀ i,i<n.n.length->-1<=(n.n.getD i d0).1/\(n.n.getD i d0).1<i
 nd:∀ i k,k<i->i<n.n.length->(n.n.getD i d0).1≠-1->(n.n.getD k d0).1≠(n.n.getD i d0).1
 sr:∀ l∈n.s,∀ x∈l,0<=x/\x<n.h
 ss:∀ l∈n.s,zT2 l=true
theorem zSq{l:LI}(h:zT2 l=true):∀ i j,i<j->j<l.length->l.getD i 0<l.getD j 0:=by
 simp only[zT2,bi,bF,decide_eq_true_eq] at h;intro i j hij hj
 induction j with
 |zero=>omega|succ j ih=>
  have h1:=h j (by omega);by_cases he:i=j
  ·subst he;exact h1
  ·have:=ih (by omega) (by omega);omega
theorem zVH{l:LI}(h:zT2 l=true){B:Int}(hb:∀ x∈l,0<=x/\x<B):(l.length:Int)<=B\/l.length=0:=by
 by_cases h0:l.length=0
 ·exact .inr h0
 ·left;have key:∀ j,j<l.length->(j:Int)<=l.getD j 0:=by
   intro j
   induction j with
   |zero=>intro hj;exact(zCl hb 0 hj).1|succ j ih=>
    intro hj;have h1:=ih (by omega);have h2:=zSq h j (j+1) (by omega) hj;omega
  have h1:=key (l.length-1) (by omega);have h2:=(zCl (d:=(0:Int)) hb (l.length-1) (by omega)).2;omega
theorem NwOk.rows{n:Nw}(ho:NwOk n):∀ l∈n.s,l.length<=10:=fun l hl=>by
 have h1:=zVH (ho.ss l hl) (ho.sr l hl);have:=ho.h;omega
theorem NwOk.small{n:Nw}(ho:NwOk n):Small n:=⟨by have:=ho.ll;omega,by have:=ho.nl;omega,by have:=ho.sl;omega,fun l hl=>by have:=ho.rows l hl;omega⟩
theorem zEI{n lo hi:Int}(h:inB n lo hi=true):lo<=n/\n<=hi:=by simpa[inB] using h
theorem zRo{h:Int}{l:LP}(he:zCQ h l=0):(l.all fun x=>zKD h x)=true/\(l.all fun x=>zKN x)=true/\(l.map pr2).Nodup:=by
 unfold zCQ at he;split at he
 ·split at he
  ·split at he
   ·exact⟨by assumption,by assumption,by assumption⟩
   ·cases he
  ·cases he
 ·cases he
theorem zSl{l:List (Int×Bool)}(he:zD9 l=0):zUe l=true/\(range l.length).any (zNc l)=false:=by
 unfold zD9 at he;split at he
 ·split at he
  ·cases he
  ·rename_i h1 h2;exact⟨h1,by rw[cA] at h2;exact h2⟩
 ·cases he
theorem zXC{n:Nw}(he:zG4 n=0):NwOk n:=by
 have he0:=he;unfold zG4 at he;split at he
 ·cases he
 split at he
 ·cases he
 split at he
 ·cases he
 split at he
 ·cases he
 rename_i c1 c2 c3 c4;split at he
 case isFalse h=>exact absurd he h
 rename_i c5;split at he
 case isFalse h=>exact absurd he h
 rename_i c6;split at he
 ·cases he
 split at he
 ·cases he
 rename_i c7 c8;simp only[cA,bE] at c1 c3 c4 c7 c8;obtain⟨d1,d2,d3⟩:=zRo c5;obtain⟨e1,e2⟩:=zSl c6;rw[bi] at c7 c8 d1 d2;simp only[zUe,bi,bF] at e1;simp only[dG,bF] at e2;have a3:=zEI c3;have a4:=zEI c4;refine⟨he0,zEI c1,by omega,by omega,by omega,fun x hx=>?_,fun x hx=>by have:=d2 x hx;simpa[zKN] using this,d3,fun i hi=>?_,fun i k hk hi hI hx=>?_,fun l hl x hx=>?_,fun l hl=>by rw[<- zK4];exact c8 l hl⟩
 ·have:=d1 x hx;simp only[zKD,bb] at this;have b1:=zEI this.1;have b2:=zEI this.2;omega
 ·have:=zEI (e1 i hi);omega
 ·refine e2 i hi ?_;simp only[zNc,bb,decide_eq_true_eq,bX];refine⟨hI,n.n.getD k d0,?_,hx⟩;rw[zAu (by omega)];exact ip.2 ⟨k,by omega,rfl⟩
 ·have:=c7 l hl;simp only[zMD,bi] at this;have:=zEI (this x hx);omega
def zNn(F:LI)(i:Nat)(a:Int):LI:=if a = -1 then F.set i i else(F.set i i).set i ((F.set i i).getD a.toNat 0)
def zPr(l:List (Int×Bool)):Nat->LI
 |0=>replicate 8 0|i+1=>zNn (zPr l i) i (l.getD i d0).1
def zNe(F:LI)(L:LI)(i k:Nat):LI:=if F.getD k 0=F.getD i 0 then L.set i (max (L.getD i 0) k) else L
def zUH(F:LI)(i:Nat)(L:LI)(k:Nat):LI:=(range k).foldl (fun L k=>zNe F L i k) L
def zRv(F:LI)(m i:Nat):LI:=(range i).foldl (fun L i=>zUH F i L m) (replicate 8 0)
theorem zTD{F:LI}{i:Nat}{a:Int}:(zNn F i a).length=F.length:=by unfold zNn;split<;>simp
theorem zHy{l:List (Int×Bool)}:∀ i,(zPr l i).length=8
 |0=>by simp[zPr]|i+1=>by rw[zPr,zTD];exact zHy i
theorem zSO{F L:LI}{i k:Nat}:(zNe F L i k).length=L.length:=by unfold zNe;split<;>simp
theorem zHm{F L:LI}{i k:Nat}:zUH F i L (k+1)=zNe F (zUH F i L k) i k:=by
 simp only[zUH,b9,cE,bM,cv]
theorem zIJ{F L:LI}{i:Nat}:∀ k,(zUH F i L k).length=L.length
 |0=>rfl|k+1=>by rw[zHm,zSO];exact zIJ k
theorem zF8{F:LI}{m i:Nat}:zRv F m (i+1)=zUH F i (zRv F m i) m:=by
 simp only[zRv,b9,cE,bM,cv]
theorem zIS{F:LI}{m:Nat}:∀ i,(zRv F m i).length=8
 |0=>by simp[zRv]|i+1=>by rw[zF8,zIJ];exact zIS i
def zAg(n:Nw):LI:=zPr n.n n.n.length
def zAN(n:Nw):LI:=zRv (zAg n) n.n.length n.n.length
abbrev zBt(n:Nw)(cs ms:PV)(F L:LI):PV := .agg [I n.h,.sl (n.l.map prV),.sl (n.n.map ntV),.sl (n.s.map zBT),cs,ms,I (F.getD 0 0),I (F.getD 1 0),I (F.getD 2 0),I (F.getD 3 0),I (F.getD 4 0),I (F.getD 5 0),I (F.getD 6 0),I (F.getD 7 0),I (L.getD 0 0),I (L.getD 1 0),I (L.getD 2 0),I (L.getD 3 0),I (L.getD 4 0),I (L.getD 5 0),I (L.getD 6 0),I (L.getD 7 0)]
abbrev zDL(M:LP):PV := .omap (M.map zDW)
section
variable [Yo]
theorem f139_1(n:Nw)(ho:NwOk n):FG 139 [nwV n] (.tup [.box (zBt n (.own 2 []) (zDL (n.l.map pr2)) (zAg n) (zAN n)),I 0]):=by
 have hs:=ho.small;have he:=ho.err;have h1:=ho.nl.2;have h2:=ho.ll;have h3:=ho.ld;have h4:=ho.na;refine zAd Tryz.f139 ?_;refine zAj 3<|zAc<|zAl 1<|S_a [(6,.ret (I (zG4 n)) [])] (ap (f76 n (by omega)) an)<|S_g 1<|zAj 2<|zMB (zG4 n=0) (by omega)<|zAh<|zAj 5<|zAc<|zAl 2<|S_a [(0,.n n.l.length)] (ap (lnS prV n.l) an)<|S_g 1<|zAf 0 ?_
 refine zAr (fun(i,M)=>i<=n.l.length/\M=(n.l.take i).map pr2) (fun(i,M)=>[(5,.box (zBt n (.own 2 []) (zDL M) (replicate 8 0) (replicate 8 0))),(24,I (i:Nat))]) (fun(i,_)=>n.l.length-i) ((0:Nat),([]:LP)) ⟨bN _,rfl⟩ fun(i,M) ⟨hi,hM⟩=>?_;by_cases yR:i<n.l.length
 ·have yM:(n.l.take (i+1)).map pr2=M++[pr2 (n.l.getD i d0)]:=by rw[zB5 (d:=d0) yR,cT,<- hM];rfl
  have hin:pr2 (n.l.getD i d0)∉M:=fun hm=>by
   rw[<- cw (i+1) n.l,cT,yM] at h3;have h2:=(bK.1 h3).1;have h3:=(bK.1 h2).2.2;exact h3 _ hm _ (bk.2 rfl) rfl
  have yB:=zMe hin;refine zAj 1<|zAc<|zAM ((i:Int)<(n.l.length:Int)) (by omega)<|zAh<|zAc<|zAf 1<|zAc<|zAb<|S_a [(2,.v (prV (n.l.getD i d0)))] (ap (zBN d0 (by omega):(map prV n.l)[i]? = some (prV (n.l.getD i d0))) an)<|S_g 3<|zAb<|zAm 5<|S_a [(6,.ret (prV (pr2 (n.l.getD i d0))) [])] (ap (f110 (n.l.getD i d0)) an)<|S_a [(4,.ix none),(0,.v (omap (map zDW (M++[pr2 (n.l.getD i d0)]))))] (ap yB<|ap ((by simp):omap (map zDW M++[(prV (pr2 (n.l.getD i d0)),bool true)])=omap (map zDW (M++[pr2 (n.l.getD i d0)]))) an)<|zA3<|zAb<|S_i i<|S_g 1 ?_
  exact rnd (i+1,M++[pr2 (n.l.getD i d0)]) ⟨by omega,yM.symm⟩ (by simp only;omega)
 ·refine zAj 1<|zAc<|zAQ ((i:Int)<(n.l.length:Int)) (by omega)<|zAD 0<|zAc<|zAl 2<|S_a [(0,.n n.n.length)] (ap (lnS ntV n.n) an)<|S_g 1<|zAf 2 ?_
  rw[bw (by omega)] at hM;subst hM;clear h3;generalize hMM:n.l.map pr2=MM;refine zAr (fun(i,F)=>i<=n.n.length/\F=zPr n.n i) (fun(i,F)=>[(5,.box (zBt n (.own 2 []) (zDL MM) F (replicate 8 0))),(38,I (i:Nat))]) (fun(i,_)=>n.n.length-i) ((0:Nat),replicate 8 0) ⟨bN _,rfl⟩ fun(i,F) ⟨hi,hF⟩=>?_;have hFl:F.length=8:=by rw[hF];exact zHy i
  by_cases yR:i<n.n.length
  ·have h4i:=h4 i yR;have yD:zPr n.n (i+1)=zNn F i (n.n.getD i d0).1:=by rw[hF];rfl
   refine zAj 1<|zAc<|zAM ((i:Int)<(n.n.length:Int)) (by omega)<|zAh<|zAc<|zAf 3<|zAl 1<|S_a [(2,.v (agg [I (n.n.getD i d0).fst,bool (n.n.getD i d0).snd]))] (ap (zBN d0 (by omega):(map ntV n.n)[i]? = some (agg [I (n.n.getD i d0).fst,bool (n.n.getD i d0).snd])) an)<|S_g 4<|zAl 5<|S_a [(2,.ob),(1,.v (addr 5 [] 0 (6+i) none))] (ap ((by exact zAp (by omega)):decide (i<8)=true)<|ap ((zF9 (by kernel_rfl)):addr 5 [] 0 (6+i*(fun x=>x.size) Tryz.prog.types[3]) none=addr 5 [] 0 (6+i) none) an)<|S_a [(8,.root (((zBt n (.own 2 []) (zDL MM) (F.set i (i:Int)) (replicate 8 0))).box) true)] (ap (zQP (zLs (q:=((zBt n (.own 2 []) (zDL MM) F (replicate 8 0))).box) (xs:=[(zBt n (.own 2 []) (zDL MM) F (replicate 8 0))]) (x:=(zBt n (.own 2 []) (zDL MM) F (replicate 8 0))) (y:=(zBt n (.own 2 []) (zDL MM) (F.set i (i:Int)) (replicate 8 0))) (q':=((zBt n (.own 2 []) (zDL MM) (F.set i (i:Int)) (replicate 8 0))).box) rfl (zPy (A:=[I n.h,prs n.l,sl (map ntV n.n),sl (map zBT n.s),own 2 [],omap (map zDW MM)]) (B:=[z8 0,z8 1,z8 2,z8 3,z8 4,z8 5,z8 6,z8 7]) (F:=F) (m:=8) (j:=i) (u:=(i:Int)) (by first|rfl|exact zCc (by kernel_rfl)|exact zCd (by kernel_rfl)|(simp;done)) (by omega) (by omega)) rfl (hb:=zPV (A:=[I n.h,prs n.l,sl (map ntV n.n),sl (map zBT n.s),own 2 [],omap (map zDW MM)]) (B:=[z8 0,z8 1,z8 2,z8 3,z8 4,z8 5,z8 6,z8 7]) (F:=F) (m:=8) (j:=i) (by first|rfl|exact zCc (by kernel_rfl)|exact zCd (by kernel_rfl)|(simp;done)) (by omega))) rfl:zBv ((zBt n (.own 2 []) (zDL MM) F (replicate 8 0))).box [] 0 (6+i) (I (i:Int)).cells=some ((zBt n (.own 2 []) (zDL MM) (F.set i (i:Int)) (replicate 8 0))).box/\zAI ((zBt n (.own 2 []) (zDL MM) F (replicate 8 0))).box ((zBt n (.own 2 []) (zDL MM) (F.set i (i:Int)) (replicate 8 0))).box []=true) an)<|zA3<|zAj 3<|zEk ((n.n.getD i d0).fst = -1) (fun k0=>(zAb<|zAm 7<|S_a [(0,.ob),(1,.ob),(1,.v (addr 5 [] 0 (6+(n.n.getD i d0).fst.toNat) none))] (ap ((by exact zAp (by omega)):decide (0<=(n.n.getD i d0).fst)=true)<|ap ((by exact zAp (by omega)):decide ((n.n.getD i d0).fst.toNat<8)=true)<|ap ((zF9 (by kernel_rfl)):addr 5 [] 0 (6+(n.n.getD i d0).fst.toNat*(fun x=>x.size) Tryz.prog.types[3]) none=addr 5 [] 0 (6+(n.n.getD i d0).fst.toNat) none) an)<|S_a [(0,.cs true ([I ((F.set i (i:Int)).getD (n.n.getD i d0).fst.toNat 0)]))] (ap (zCn (q:=((zBt n (.own 2 []) (zDL MM) (F.set i (i:Int)) (replicate 8 0))).box) (xs:=[(zBt n (.own 2 []) (zDL MM) (F.set i (i:Int)) (replicate 8 0))]) (x:=(zBt n (.own 2 []) (zDL MM) (F.set i (i:Int)) (replicate 8 0))) rfl rfl (zK8 (A:=[I n.h,prs n.l,sl (map ntV n.n),sl (map zBT n.s),own 2 [],omap (map zDW MM)]) (B:=[z8 0,z8 1,z8 2,z8 3,z8 4,z8 5,z8 6,z8 7]) (F:=F.set i (i:Int)) (m:=8) (j:=(n.n.getD i d0).fst.toNat) (by first|rfl|exact zCc (by kernel_rfl)|exact zCd (by kernel_rfl)|(simp;done)) (by omega)):zAq 5 ((zBt n (.own 2 []) (zDL MM) (F.set i (i:Int)) (replicate 8 0))).box [] 0 (6+(n.n.getD i d0).fst.toNat) 1=some (true,[I ((F.set i (i:Int)).getD (n.n.getD i d0).fst.toNat 0)])) an)<|zAm 2<|S_a [(2,.ob),(1,.v (addr 5 [] 0 (6+i) none))] (ap ((by exact zAp (by omega)):decide (i<8)=true)<|ap ((zF9 (by kernel_rfl)):addr 5 [] 0 (6+i*(fun x=>x.size) Tryz.prog.types[3]) none=addr 5 [] 0 (6+i) none) an)<|S_a [(8,.root (((zBt n (.own 2 []) (zDL MM) ((F.set i (i:Int)).set i ((F.set i (i:Int)).getD (n.n.getD i d0).fst.toNat 0)) (replicate 8 0))).box) true)] (ap (zQP (zLs (q:=((zBt n (.own 2 []) (zDL MM) (F.set i (i:Int)) (replicate 8 0))).box) (xs:=[(zBt n (.own 2 []) (zDL MM) (F.set i (i:Int)) (replicate 8 0))]) (x:=(zBt n (.own 2 []) (zDL MM) (F.set i (i:Int)) (replicate 8 0))) (y:=(zBt n (.own 2 []) (zDL MM) ((F.set i (i:Int)).set i ((F.set i (i:Int)).getD (n.n.getD i d0).fst.toNat 0)) (replicate 8 0))) (q':=((zBt n (.own 2 []) (zDL MM) ((F.set i (i:Int)).set i ((F.set i (i:Int)).getD (n.n.getD i d0).fst.toNat 0)) (replicate 8 0))).box) rfl (zPy (A:=[I n.h,prs n.l,sl (map ntV n.n),sl (map zBT n.s),own 2 [],omap (map zDW MM)]) (B:=[z8 0,z8 1,z8 2,z8 3,z8 4,z8 5,z8 6,z8 7]) (F:=F.set i (i:Int)) (m:=8) (j:=i) (u:=(F.set i (i:Int)).getD (n.n.getD i d0).fst.toNat 0) (by first|rfl|exact zCc (by kernel_rfl)|exact zCd (by kernel_rfl)|(simp;done)) (by omega) (by first|omega|(simp<;>omega))) rfl (hb:=zPV (A:=[I n.h,prs n.l,sl (map ntV n.n),sl (map zBT n.s),own 2 [],omap (map zDW MM)]) (B:=[z8 0,z8 1,z8 2,z8 3,z8 4,z8 5,z8 6,z8 7]) (F:=F.set i (i:Int)) (m:=8) (j:=i) (by first|rfl|exact zCc (by kernel_rfl)|exact zCd (by kernel_rfl)|(simp;done)) (by omega))) rfl:zBv ((zBt n (.own 2 []) (zDL MM) (F.set i (i:Int)) (replicate 8 0))).box [] 0 (6+i) (I ((F.set i (i:Int)).getD (n.n.getD i d0).fst.toNat 0)).cells=some ((zBt n (.own 2 []) (zDL MM) ((F.set i (i:Int)).set i ((F.set i (i:Int)).getD (n.n.getD i d0).fst.toNat 0)) (replicate 8 0))).box/\zAI ((zBt n (.own 2 []) (zDL MM) (F.set i (i:Int)) (replicate 8 0))).box ((zBt n (.own 2 []) (zDL MM) ((F.set i (i:Int)).set i ((F.set i (i:Int)).getD (n.n.getD i d0).fst.toNat 0)) (replicate 8 0))).box []=true) an)<|zA3<|zAb<|S_i i<|S_g 1 ?_)) (fun k0=>(zAh<|zAb<|S_i i<|S_g 1 ?_))
   ·rw[zNn,if_neg k0] at yD;exact rnd (i+1,(F.set i i).set i ((F.set i i).getD (n.n.getD i d0).1.toNat 0)) ⟨by omega,yD.symm⟩ (by simp only;omega)
   ·rw[zNn,if_pos k0] at yD;exact rnd (i+1,F.set i i) ⟨by omega,yD.symm⟩ (by simp only;omega)
  ·have hFF:F=zAg n:=by rw[hF,zAg,show i=n.n.length by omega]
   subst hFF;clear hF;have uu:zAN n=zRv (zAg n) n.n.length n.n.length:=rfl;rw[uu];generalize hG:zAg n=F at *;clear uu h4;refine zAj 1<|zAc<|zAQ ((i:Int)<(n.n.length:Int)) (by omega)<|zAD 2<|zAc<|zAl 2<|S_a [(0,.n n.n.length)] (ap (lnS ntV n.n) an)<|S_g 1<|zAf 4 ?_
   refine zAr (fun(i,L)=>i<=n.n.length/\L=zRv F n.n.length i) (fun(i,L)=>[(5,.box (zBt n (.own 2 []) (zDL MM) F L)),(68,I (i:Nat))]) (fun(i,_)=>n.n.length-i) ((0:Nat),replicate 8 0) ⟨bN _,rfl⟩ fun(i,L) ⟨hi,hL⟩=>?_;have hLl:L.length=8:=by rw[hL];exact zIS i
   by_cases yR:i<n.n.length
   ·have yD:=zF8 (F:=F) (m:=n.n.length) (i:=i);rw[<- hL] at yD;refine zAj 1<|zAc<|zAM ((i:Int)<(n.n.length:Int)) (by omega)<|zAh<|zAc<|zAf 5<|zAj 2<|zAl 2<|S_a [(0,.n n.n.length)] (ap (lnS ntV n.n) an)<|S_g 1<|zAf 6 ?_
    refine zAr (fun(k,Q)=>k<=n.n.length/\Q=zUH F i L k) (fun(k,Q)=>[(5,.box (zBt n (.own 2 []) (zDL MM) F Q)),(74,I (k:Nat))]) (fun(k,_)=>n.n.length-k) ((0:Nat),L) ⟨bN _,rfl⟩ fun(k,Q) ⟨hk,hQ⟩=>?_;have hQl:Q.length=8:=by rw[hQ,zIJ];exact hLl
    by_cases vd:k<n.n.length
    ·have jW:=zHm (F:=F) (L:=L) (i:=i) (k:=k);rw[<- hQ] at jW;clear yD hL hQ;refine zAj 1<|zAc<|zAM ((k:Int)<(n.n.length:Int)) (by omega)<|zAh<|zAc<|zAf 7<|zAj 2<|zAl 4<|S_a [(2,.ob),(1,.v (addr 5 [] 0 (6+k) none))] (ap ((by exact zAp (by omega)):decide (k<8)=true)<|ap ((zF9 (by kernel_rfl)):addr 5 [] 0 (6+k*(fun x=>x.size) Tryz.prog.types[3]) none=addr 5 [] 0 (6+k) none) an)<|S_a [(0,.cs true ([I (F.getD k 0)]))] (ap (zCn (q:=((zBt n (.own 2 []) (zDL MM) F Q)).box) (xs:=[(zBt n (.own 2 []) (zDL MM) F Q)]) (x:=(zBt n (.own 2 []) (zDL MM) F Q)) rfl rfl (zK8 (A:=[I n.h,prs n.l,sl (map ntV n.n),sl (map zBT n.s),own 2 [],omap (map zDW MM)]) (B:=[I (Q.getD 0 0),I (Q.getD 1 0),I (Q.getD 2 0),I (Q.getD 3 0),I (Q.getD 4 0),I (Q.getD 5 0),I (Q.getD 6 0),I (Q.getD 7 0)]) (F:=F) (m:=8) (j:=k) (by first|rfl|exact zCc (by kernel_rfl)|exact zCd (by kernel_rfl)|(simp;done)) (by omega)):zAq 5 ((zBt n (.own 2 []) (zDL MM) F Q)).box [] 0 (6+k) 1=some (true,[I (F.getD k 0)])) an)<|zAm 4<|S_a [(2,.ob),(1,.v (addr 5 [] 0 (6+i) none))] (ap ((by exact zAp (by omega)):decide (i<8)=true)<|ap ((zF9 (by kernel_rfl)):addr 5 [] 0 (6+i*(fun x=>x.size) Tryz.prog.types[3]) none=addr 5 [] 0 (6+i) none) an)<|S_a [(0,.cs true ([I (F.getD i 0)]))] (ap (zCn (q:=((zBt n (.own 2 []) (zDL MM) F Q)).box) (xs:=[(zBt n (.own 2 []) (zDL MM) F Q)]) (x:=(zBt n (.own 2 []) (zDL MM) F Q)) rfl rfl (zK8 (A:=[I n.h,prs n.l,sl (map ntV n.n),sl (map zBT n.s),own 2 [],omap (map zDW MM)]) (B:=[I (Q.getD 0 0),I (Q.getD 1 0),I (Q.getD 2 0),I (Q.getD 3 0),I (Q.getD 4 0),I (Q.getD 5 0),I (Q.getD 6 0),I (Q.getD 7 0)]) (F:=F) (m:=8) (j:=i) (by first|rfl|exact zCc (by kernel_rfl)|exact zCd (by kernel_rfl)|(simp;done)) (by omega)):zAq 5 ((zBt n (.own 2 []) (zDL MM) F Q)).box [] 0 (6+i) 1=some (true,[I (F.getD i 0)])) an)<|S_g 1<|zCN (F.getD k 0=F.getD i 0) (fun k1=>(zAb<|zAm 6<|S_a [(2,.ob),(1,.v (addr 5 [] 0 (14+i) none))] (ap ((by exact zAp (by omega)):decide (i<8)=true)<|ap ((zF9 (by kernel_rfl)):addr 5 [] 0 (14+i*(fun x=>x.size) Tryz.prog.types[3]) none=addr 5 [] 0 (14+i) none) an)<|S_a [(0,.cs true ([I (Q.getD i 0)]))] (ap (zCn (q:=((zBt n (.own 2 []) (zDL MM) F Q)).box) (xs:=[(zBt n (.own 2 []) (zDL MM) F Q)]) (x:=(zBt n (.own 2 []) (zDL MM) F Q)) rfl rfl (zK8 (A:=[I n.h,prs n.l,sl (map ntV n.n),sl (map zBT n.s),own 2 [],omap (map zDW MM),I (F.getD 0 0),I (F.getD 1 0),I (F.getD 2 0),I (F.getD 3 0),I (F.getD 4 0),I (F.getD 5 0),I (F.getD 6 0),I (F.getD 7 0)]) (B:=[]) (F:=Q) (m:=8) (j:=i) (by first|rfl|exact zCc (by kernel_rfl)|exact zCd (by kernel_rfl)|(simp;done)) (by omega)):zAq 5 ((zBt n (.own 2 []) (zDL MM) F Q)).box [] 0 (14+i) 1=some (true,[I (Q.getD i 0)])) an)<|zAm 2<|S_a [(9,.ret (I (max (Q.getD i 0) (k:Int))) [])] (ap (f165 (Q.getD i 0) ((k:Int))) an)<|zAm 2<|S_a [(2,.ob),(1,.v (addr 5 [] 0 (14+i) none))] (ap ((by exact zAp (by omega)):decide (i<8)=true)<|ap ((zF9 (by kernel_rfl)):addr 5 [] 0 (14+i*(fun x=>x.size) Tryz.prog.types[3]) none=addr 5 [] 0 (14+i) none) an)<|S_a [(8,.root (((zBt n (.own 2 []) (zDL MM) F (Q.set i (max (Q.getD i 0) (k:Int))))).box) true)] (ap (zQP (zLs (q:=((zBt n (.own 2 []) (zDL MM) F Q)).box) (xs:=[(zBt n (.own 2 []) (zDL MM) F Q)]) (x:=(zBt n (.own 2 []) (zDL MM) F Q)) (y:=(zBt n (.own 2 []) (zDL MM) F (Q.set i (max (Q.getD i 0) (k:Int))))) (q':=((zBt n (.own 2 []) (zDL MM) F (Q.set i (max (Q.getD i 0) (k:Int))))).box) rfl (zPy (A:=[I n.h,prs n.l,sl (map ntV n.n),sl (map zBT n.s),own 2 [],omap (map zDW MM),I (F.getD 0 0),I (F.getD 1 0),I (F.getD 2 0),I (F.getD 3 0),I (F.getD 4 0),I (F.getD 5 0),I (F.getD 6 0),I (F.getD 7 0)]) (B:=[]) (F:=Q) (m:=8) (j:=i) (u:=max (Q.getD i 0) (k:Int)) (by first|rfl|exact zCc (by kernel_rfl)|exact zCd (by kernel_rfl)|(simp;done)) (by omega) (by omega)) rfl (hb:=zPV (A:=[I n.h,prs n.l,sl (map ntV n.n),sl (map zBT n.s),own 2 [],omap (map zDW MM),I (F.getD 0 0),I (F.getD 1 0),I (F.getD 2 0),I (F.getD 3 0),I (F.getD 4 0),I (F.getD 5 0),I (F.getD 6 0),I (F.getD 7 0)]) (B:=[]) (F:=Q) (m:=8) (j:=i) (by first|rfl|exact zCc (by kernel_rfl)|exact zCd (by kernel_rfl)|(simp;done)) (by omega))) rfl:zBv ((zBt n (.own 2 []) (zDL MM) F Q)).box [] 0 (14+i) (I (max (Q.getD i 0) (k:Int))).cells=some ((zBt n (.own 2 []) (zDL MM) F (Q.set i (max (Q.getD i 0) (k:Int))))).box/\zAI ((zBt n (.own 2 []) (zDL MM) F Q)).box ((zBt n (.own 2 []) (zDL MM) F (Q.set i (max (Q.getD i 0) (k:Int))))).box []=true) an)<|zA3<|zAb<|S_i k<|S_g 1 ?_)) (fun k1=>(zAh<|zAb<|S_i k<|S_g 1 ?_))
     ·rw[zNe,if_pos (by assumption)] at jW;exact rnd (k+1,Q.set i (max (Q.getD i 0) k)) ⟨by omega,jW.symm⟩ (by simp only;omega)
     ·rw[zNe,if_neg (by assumption)] at jW;exact rnd (k+1,Q) ⟨by omega,jW.symm⟩ (by simp only;omega)
    ·refine zAj 1<|zAc<|zAQ ((k:Int)<(n.n.length:Int)) (by omega)<|zAD 6<|zAb<|S_i i<|S_g 1 ?_
     exact rnd (i+1,Q) ⟨by omega,by rw[yD,hQ,show k=n.n.length by omega]⟩ (by simp only;omega)
   ·refine zAj 1<|zAc<|zAQ ((i:Int)<(n.n.length:Int)) (by omega)<|zAD 4<|zAl 1<|zAm 1<|S_g 1<|zAn<|E_a [] an (tup [((zBt n (.own 2 []) (zDL MM) F L)).box,I 0]) [] ?_ rfl
    rw[hL,show i=n.n.length by omega]
end
end Go.Eng
set_option maxRecDepth 10000
set_option maxHeartbeats 4000000
namespace Go.Eng
open Go Go.Proofs
abbrev mapM(M:LP):PV := .map (M.map zDW)
abbrev zE9(n:Nw)(cs:LP):PV := .ref (zBt n (prs cs) (mapM (n.l.map pr2)) (zAg n) (zAN n))
def zHp(n:Nw)(c:Int×Int):Bool:=inB c.1 0 (n.n.length-1)&&inB c.2 0 (n.s.length-1)
def zQV(n:Nw)(cs:LP):Int:=if zG4 n=0 then if (cs.length:Int)>16 then 2 else if (!cs.all fun c=>zHp n c)=true then 1 else 0 else zG4 n
def zQR(n:Nw)(cs:LP)(e:Int):Int:=if zQV n cs=0 then if inB e 0 12=true then 0 else 3 else zQV n cs
structure CrOk (n:Nw) (cs:LP):Prop where
 err:zQV n cs=0
 nw:NwOk n
 len:cs.length<=16
 cs:∀ c∈cs,(0<=c.1/\c.1<n.n.length)/\(0<=c.2/\c.2<n.s.length)
structure CrW (n:Nw) (cs:LP):Prop where
 nw:NwOk n
 len:cs.length<=1000
 cs:∀ c∈cs,(0<=c.1/\c.1<n.n.length)/\(0<=c.2/\c.2<n.s.length)
theorem CrOk.w{n:Nw}{cs:LP}(h:CrOk n cs):CrW n cs:=⟨h.nw,by have:=h.len;omega,h.cs⟩
theorem zXz{n:Nw}{cs:LP}(he:zQV n cs=0):CrOk n cs:=by
 have he0:=he;unfold zQV at he;split at he
 case isFalse h=>exact absurd he h
 rename_i c1;split at he
 ·cases he
 split at he
 ·cases he
 rename_i c2 c3;simp only[cA,bE,bi] at c3;refine⟨he0,zXC c1,by omega,fun c hc=>?_⟩;have:=c3 c hc;simp only[zHp,bb] at this;have b1:=zEI this.1;have b2:=zEI this.2;omega
structure EvOk (n:Nw) (cs:LP) (e:Int):Prop where
 err:zQR n cs e=0
 cr:CrOk n cs
 ev:0<=e/\e<=12
theorem zTL{n:Nw}{cs:LP}{e:Int}(he:zQR n cs e=0):EvOk n cs e:=by
 have he0:=he;unfold zQR at he;split at he
 case isFalse h=>exact absurd he h
 rename_i c1;split at he
 ·rename_i h;exact⟨he0,zXz c1,zEI h⟩
 ·cases he
section
variable [Yo]
theorem f170(n:Nw)(x:Int)(hb:n.s.length<=6):FG 170 [nwV n,I x] (.bool (inB x 0 (n.s.length-1))):=by
 refine zAd Tryz.f170 ?_;refine zAj 2<|zAl 3<|S_a [(0,.n n.s.length)] (ap (lnS zBT n.s) an)<|S_a [(1,.v (I ((n.s.length:Int)-1)))] (ap ((zBW rfl (by omega)):I (IntKind.i64.wrap ((n.s.length:Int)-1))=I ((n.s.length:Int)-1)) an)<|S_a [(10,.ret (bool (inB x 0 ((n.s.length:Int)-1))) [])] (ap (f107 x (0) ((n.s.length:Int)-1)) an)<|S_g 1<|zAn E_0
theorem f118(n:Nw)(c:Int×Int)(cp:PV)(M:LP)(F L:LI)(ho:NwOk n):FG 118 [.ref (zBt n cp (mapM M) F L),prV c] (.bool (zHp n c)):=by
 have h1:=ho.nl.2;have h2:=ho.sl.2;refine zAd Tryz.f118 ?_;refine zAj 2<|zAl 6<|S_a [(8,.ret (bool (inB c.fst 0 ((n.n.length:Int)-1))) [])] (ap (f106 n c.fst (by omega)) an)<|zAm 1<|zGK 12 (inB c.fst 0 ((n.n.length:Int)-1)) (fun k0=>(zAm 6<|S_a [(8,.ret (bool (inB c.snd 0 ((n.s.length:Int)-1))) [])] (ap (f170 n c.snd (by omega)) an)<|S_g 2<|zAn<|E_a [] an (bool (inB c.snd 0 ((n.s.length:Int)-1))) [] ?_ rfl)) (fun k0=>(S_g 9<|zAn<|E_a [] an (bool false) [] ?_ rfl))
 ·simp only[zHp,k0,cy]
 ·simp only[zHp,k0,dB]
theorem f204_1(n:Nw)(M:LP)(F L:LI)(ho:NwOk n)(x:Int×Int):FG 204 [prV x,.ref (.func 118 [.ref (zBt n (.sl []) (mapM M) F L)] [])] (.bool (!(zHp n x))):=by
 refine zAd Tryz.f204 ?_;refine zAj 2<|zAl 2<|S_a [(7,.ret (bool (zHp n x)) [])] (ap (f118 n x (sl []) M F L (by omega)) an)<|S_g 2<|zAn E_0
theorem f203_1(n:Nw)(M:LP)(F L:LI)(ho:NwOk n)(l:LP)(hl:l.length<4294967296):FG 203 [.sl (l.map prV),.func 204 [] [.ref (.func 118 [.ref (zBt n (.sl []) (mapM M) F L)] [])]] (I (zDZ (fun x=>!(zHp n x)) l)):=by
 refine zAd Tryz.f203 ?_;refine zAj 1<|zAc<|zAl 1<|S_a [(0,.n l.length)] (ap (lnS prV l) an)<|S_g 1<|zAf 0 ?_
 refine zAr (fun i=>i<=l.length/\∀ j,j<i->(fun x=>!(zHp n x)) (l.getD j d0)=false) (fun i=>[(8,I (i:Nat))]) (fun i=>l.length-i) (0:Nat) (by simp) fun i ⟨hi,ha⟩=>?_;refine zAj 1<|zAc<|zCN ((i:Int)<(l.length:Int)) (fun k0=>(zAh<|zAc<|zAf 1<|zAj 2<|zAl 3<|S_a [(2,.v (prV (l.getD i d0)))] (ap (zBN d0 (by omega):(map prV l)[i]? = some (prV (l.getD i d0))) an)<|zAm 1<|S_a [(7,.ret (bool !zHp n (l.getD i d0)) [])] (ap (f204_1 n M F L (by omega) (l.getD i d0)) an)<|zA3<|zEx (!zHp n (l.getD i d0)) (fun k1=>(zAj 2<|zAn<|E_a [] an (I (i:Int)) [] ?_ rfl)) (fun k1=>(zAh<|zAb<|S_i i<|S_g 1 ?_)))) (fun k0=>(zAD 0<|zAj 1<|zAn<|E_a [] an (I (-1)) [] ?_ rfl))
 ·rw[zBG (i:=i) (by omega) (fun j hj=>by rw[<- zAu (d:=d0)];exact ha j hj) (by rw[<- zAu (d:=d0)];first|assumption|exact decide_eq_true ‹_›|(simp only[bG,decide_eq_false_iff_not];assumption))]
 ·refine⟨i+1,⟨by omega,fun j hj=>?_⟩,by omega,by kernel_rfl,by kernel_rfl⟩;rcases bP.1 hj with h|rfl
  ·exact ha j h
  ·first|assumption|exact decide_eq_false ‹_›|(simp only[bE,decide_eq_true_eq];first|assumption|(apply cR;assumption))
 ·rw[zBY fun j hj=>by rw[<- zAu (d:=d0)];exact ha j (by omega)]
theorem f159_1(n:Nw)(M:LP)(F L:LI)(ho:NwOk n)(l:LP)(hl:l.length<4294967296):FG 159 [.sl (l.map prV),.func 204 [] [.ref (.func 118 [.ref (zBt n (.sl []) (mapM M) F L)] [])]] (.bool (l.any (fun x=>!(zHp n x)))):=by
 refine zAd Tryz.f159 ?_;refine zAj 1<|zAl 2<|S_a [(7,.ret (I (zDZ (fun x=>!zHp n x) l)) [])] (ap (f203_1 n M F L (by omega) l (by omega)) an)<|S_g 2<|zAn<|E_a [] an (bool (decide (zDZ (fun x=>!zHp n x) l>=0))) [] ?_ rfl
 rw[zDy]
theorem f164_1(n:Nw)(M:LP)(F L:LI)(ho:NwOk n)(l:LP)(hl:l.length<4294967296):FG 164 [.sl (l.map prV),.func 118 [.ref (zBt n (.sl []) (mapM M) F L)] []] (.bool (l.all (fun x=>zHp n x))):=by
 refine zAd Tryz.f164 ?_;refine zAj 2<|zAl 2<|S_a [(12,.ret (bool (l.any fun x=>!zHp n x)) [])] (ap (f159_1 n M F L (by omega) l (by omega)) an)<|S_g 2<|zAn<|E_a [] an (bool !l.any fun x=>!zHp n x) [] ?_ rfl
 simp[cX]
theorem f99_1(n:Nw)(cs:LP)(ho:CrOk n cs):FG 99 [nwV n,prs cs] (.tup [zE9 n cs,I 0]):=by
 have hn:=ho.nw;have hl:=ho.len;have ha:(!cs.all fun c=>zHp n c)=false:=by
  simp only[bE,bi];intro c hc;have:=ho.cs c hc;simp only[zHp,inB,bb,decide_eq_true_eq];omega
 refine zAd Tryz.f99 ?_;refine zAj 3<|zAl 1<|S_a [(6,.ret (tup [(zBt n (own 2 []) (zDL (map pr2 n.l)) (zAg n) (zAN n)).box,I 0]) [])] (ap (f139_1 n (by omega)) an)<|S_g 5<|zAc<|zAf 0<|zAj 3<|zAB<|zAl 1<|S_a [(0,.n cs.length)] (ap (lnS prV cs) an)<|S_g 2<|zAQ ((cs.length:Int)>16) (by omega)<|zAl 3<|S_a [(13,.ret (bool (cs.all fun x=>zHp n x)) [])] (ap (f164_1 n (map pr2 n.l) (zAg n) (zAN n) (by omega) cs (by omega)) an)<|S_g 2<|zEx (!cs.all fun x=>zHp n x) (fun k0=>(zAj 2<|zAn<|E_a [] an (tup [PV.nilp,I 1]) [] ?_ rfl)) (fun k0=>(zAh<|zAj 5<|zAl 1<|zAm 1<|S_g 1<|zAn E_0))
 rw[ha] at k0;cases k0
theorem f90_1(n:Nw)(cs:LP)(e:Int)(ho:EvOk n cs e):FG 90 [nwV n,prs cs,I e] (.tup [zE9 n cs,I 0]):=by
 have hc:=ho.cr;have he:inB e 0 12=true:=by have:=ho.ev;simp only[inB,bb,decide_eq_true_eq];omega
 refine zAd Tryz.f90 ?_;refine zAj 3<|zAl 2<|S_a [(8,.ret (tup [zE9 n cs,I 0]) [])] (ap (f99_1 n cs (by omega)) an)<|S_g 5<|zAc<|zAl 4<|S_a [(10,.ret (bool (inB e 0 12)) [])] (ap (f107 e (0) (12)) an)<|S_g 2<|zEx (!inB e 0 12) (fun k0=>(zAb<|S_g 1<|zAc<|zAj 2<|zCy<|zAj 3<|zAn<|E_a [] an (tup [PV.nilp,I 3]) [] ?_ rfl)) (fun k0=>(zAh<|zAc<|zAj 2<|zAB<|zAh<|zAj 3<|zAn E_0))
 rw[he] at k0;cases k0
theorem f140(n:Nw)(cp:PV)(M:LP)(F L:LI)(ho:NwOk n)(h:Int)(s:Int)(hs:0<=s/\s<n.s.length):FG 140 [.ref (zBt n cp (mapM M) F L),I h,I s] (.bool (has (n.s.getD s.toNat []) h)):=by
 have h1:=zCl (d:=[]) ho.rows s.toNat (by omega);refine zAd Tryz.f140 ?_;refine zAj 1<|zAl 6<|S_a [(0,.ob),(1,.v (zBT (n.s.getD s.toNat [])))] (ap ((by exact zAp (by omega)):decide (0<=s)=true)<|ap (zBN [] (by omega):(map zBT n.s)[s.toNat]? = some (zBT (n.s.getD s.toNat []))) an)<|zAm 2<|S_a [(8,.ret (bool (has (n.s.getD s.toNat []) h)) [])] (ap (f58 (n.s.getD s.toNat []) h (by omega)) an)<|S_g 1<|zAn E_0
theorem f116(n:Nw)(cs:LP)(h:Int):FG 116 [zE9 n cs,I h] (.func 169 [] [.ref (zE9 n cs),.ref (I h)]):=by
 refine zAd Tryz.f116 ?_;refine zAj 3<|zAj 2<|zAn E_0
end
def zDu(n:Nw)(a b:Int):Bool:=decide (pr2 (a,b)∈n.l.map pr2)
def zHN(n:Nw)(h:Nat)(o:Nat):LN:=(range o).filter fun o=>zDu n h o
theorem zNK{n:Nw}{h o:Nat}:zHN n h (o+1)=if zDu n h o=true then zHN n h o++[o] else zHN n h o:=by
 unfold zHN;rw[b9,dv];by_cases hn:zDu n h o=true
 ·rw[if_pos hn];simp[hn]
 ·rw[if_neg hn];simp[hn]
theorem zVX{n:Nw}{h t m:Nat}(ht:t<=m):zHN n h t <+: zHN n h m:=by
  induction ht with
  |refl=>exact fN _
  | step _ ih => rw [zNK];split
                 · exact ih.trans (List.prefix_append _ _)
                 · exact ih
theorem zU8{α:Type}{x y:List α}(h:x <+: y){k:Int}(hk:k=x.length):x=y.take k.toNat:=by
 rw[hk,bR];exact List.prefix_iff_eq_take.1 h
abbrev zJA(n:Nw)(h o:Nat):List (List PV):=(zHN n h o).map fun(o:Nat)=>[I o]
abbrev zSQ(n:Nw)(cs:LP)(h:Nat):List PV:=[.ref (zE9 n cs),.ref (I h)]
theorem zWF[Yo](n:Nw)(cs:LP)(h:Nat)(ho:NwOk n)(hh:(h:Int)<n.h)(k:Int)(hk:k = -1\/1<=k/\k<=(zHN n h n.h.toNat).length)(i:Nat):W Tryz.prog zCx 169 Tryz.f169.ntmps (Tryz.f169.body.getD .ret) (zBf ([]++PV.yld i::zSQ n cs h) []) (some ⟨[],k,i⟩) fun x _ lg=>(x = .norm\/x = .ret)/\lg.map (·.xs)=some (if k = -1 then zJA n h n.h.toNat else(zJA n h n.h.toNat).take k.toNat):=by
 have hb:=ho.h;refine zAj 6<|zAf 0 ?_
 refine zXF (fun(o,xs,kc)=>o<=n.h.toNat/\xs=zJA n h o/\kc=k-xs.length/\(k = -1\/1<=kc)) (fun(o,_,_)=>[(10,I (o:Nat))]) (fun(_,xs,kc)=>some ⟨xs,kc,i⟩) (fun(o,_,_)=>n.h.toNat-o) ((0:Nat),([]:List (List PV)),k) ⟨bN _,rfl,by simp,by omega⟩ fun(o,xs,kc) ⟨hr,j6,hkc,jY⟩=>?_;by_cases qD:(o:Int)<n.h
 ·have yx:=zNK (n:=n) (h:=h) (o:=o);by_cases hI:zDu n h o=true
  ·rw[if_pos hI] at yx;have hne2:pr2 ((h:Int),(o:Int))∈n.l.map pr2:=by simpa[zDu] using hI
   obtain⟨j,hj,yB⟩:=zSi hne2;have yj:zD4 ((n.l.map pr2).map zDW) j=some (.bool true):=by
    have:j<n.l.length:=by simpa using hj
    simp[zD4,this]
   have gD:xs++[[I o]]=zJA n h (o+1):=by rw[zJA,yx,cT,j6];rfl
   have ut:xs++[[I o]] <+: zJA n h n.h.toNat:=by rw[gD];exact(zVX (by omega)).map _
   refine zAj 1<|zAc<|zAM ((o:Int)<n.h) (by omega)<|zAh<|zAc<|zAf 1<|zAj 2<|zAl 7<|S_a [(6,.ret (prV (pr2 ((h:Int),(o:Int)))) [])] (ap (f110 (((h:Int),(o:Int)))) an)<|S_a [(2,.ix (some j)),(0,.v (bool true))] (ap yB<|ap (yj:zD4 (map zDW (map pr2 n.l)) j=some (bool true)) an)<|zAm 3 ?_
   refine zWX kc xs [I o] i (fun hk3=>?_) (fun hk3=>?_) (by omega)
   ·refine S_g 2<|zCy<|zAn ?_
    refine⟨.inr rfl,?_⟩;have wx:k=(xs++[[I (o:Int)]]).length:=by simp;omega
    have jY:¬ k = -1:=by omega
    rw[if_neg jY,<- zU8 ut wx];show Option.map _ _=_;kernel_rfl
   ·refine S_g 2<|zAB<|zAh<|zAb<|S_i o<|S_g 1 ?_
    exact rnd (o+1,xs++[[I o]],kc-1) ⟨by omega,gD,by simp;omega,by omega⟩ (by simp only;omega)
  ·rw[if_neg hI] at yx;have hne2:pr2 ((h:Int),(o:Int))∉n.l.map pr2:=by simpa[zDu] using hI
   have yB:=zMe hne2;refine zAj 1<|zAc<|zAM ((o:Int)<n.h) (by omega)<|zAh<|zAc<|zAf 1<|zAj 2<|zAl 7<|S_a [(6,.ret (prV (pr2 ((h:Int),(o:Int)))) [])] (ap (f110 (((h:Int),(o:Int)))) an)<|S_a [(2,.ix none)] (ap yB an)<|S_g 6<|zAB<|zAh<|zAb<|S_i o<|S_g 1 ?_
   exact rnd (o+1,xs,kc) ⟨by omega,by rw[zJA,yx];exact j6,hkc,jY⟩ (by simp only;omega)
 ·have e:o=n.h.toNat:=by omega
  subst e;have yA:xs.length=(zHN n h n.h.toNat).length:=by rw[j6];simp
  have jY:k = -1:=by omega
  refine zAj 1<|zAc<|zAQ ((n.h.toNat:Int)<n.h) (by omega)<|zAD 0 ?_
  refine⟨.inl rfl,?_⟩;rw[if_pos jY,<- j6];show Option.map _ _=_;kernel_rfl
theorem zZ1(n:Nw)(cs:LP)(h:Nat)(ho:NwOk n)(hh:(h:Int)<n.h)(k:Int)(hk:k = -1\/1<=k/\k<=(zHN n h n.h.toNat).length):@zVV (yo1 Tryz.prog zCx) 169 [] (zSQ n cs h) k (if k = -1 then zJA n h n.h.toNat else(zJA n h n.h.toNat).take k.toNat) :=
 zU0 Tryz.f169 (fun i=>@zWF yo0 n cs h ho hh k hk i) (by omega)
noncomputable instance nwYo:Yo:=yo1 Tryz.prog zCx
theorem zV4(n:Nw)(cs:LP)(h:Nat)(ho:NwOk n)(hh:(h:Int)<n.h):zGs 169 [] (zSQ n cs h) (zJA n h n.h.toNat):=by
 refine⟨?_,fun j h1 h2=>?_⟩
 ·have:=zZ1 n cs h ho hh (-1) (.inl rfl);rwa[if_pos rfl] at this
 ·have:=zZ1 n cs h ho hh (j:Int) (.inr ⟨by omega,by simpa using h2⟩);rw[if_neg (by omega)] at this;exact this
end Go.Eng
set_option maxRecDepth 10000
set_option maxHeartbeats 4000000
namespace Go.Eng
open Go Go.Proofs
abbrev hdV(w:LI):PV := .agg (zA5 w 80)
def zRt(w:LI)(i:Nat)(x:Int):LI:=w.set i (max (w.getD i 0) x)
theorem zIH{w:LI}{i:Nat}{x:Int}:(zRt w i x).length=w.length:=by simp[zRt]
def begC(n:Nw)(h:Nat)(w:LI)(c:Int×Int):LI:=if has (n.s.getD c.2.toNat []) h=true then zRt w (h*8+((zAg n).getD c.1.toNat 0).toNat) c.1 else w
def begH(n:Nw)(h:Nat)(w:LI)(cs:LP):LI:=cs.foldl (begC n h) w
def begN(n:Nw)(cs:LP)(h:Nat):LI:=(range h).foldl (fun w h=>begH n h w cs) (replicate 80 (-1))
def nxtR(now:LI)(h o:Nat)(w:LI)(k:Nat):LI:=(range k).foldl (fun w i=>zRt w (h*8+i) (now.getD (o*8+i) 0)) w
def nxtH(now:LI)(h:Nat)(w:LI)(l:LN):LI:=l.foldl (fun w o=>nxtR now h o w 8) w
def nxtN(n:Nw)(now:LI)(h:Nat):LI:=(range h).foldl (fun w h=>nxtH now h w (zHN n h n.h.toNat)) now
def zKC(n:Nw)(cs:LP):LI:=begN n cs n.h.toNat
def zCf(n:Nw)(now:LI):LI:=nxtN n now n.h.toNat
def zAy(n:Nw)(cs:LP):Nat->LI
 |0=>zKC n cs|k+1=>zCf n (zAy n cs k)
theorem zUs{n:Nw}{h:Nat}{w:LI}{c:Int×Int}:(begC n h w c).length=w.length:=by unfold begC;split<;>simp[zIH]
theorem zL7{n:Nw}{h:Nat}:∀ {cs:LP} {w:LI},(begH n h w cs).length=w.length
 |[],w=>rfl|c::cs,w=>by
  show(begH n h (begC n h w c) cs).length=_
  rw[zL7,zUs]
theorem zJZ{n:Nw}{cs:LP}{h:Nat}:begN n cs (h+1)=begH n h (begN n cs h) cs:=by
 simp only[begN,b9,cE,bM,cv]
theorem zME{n:Nw}{cs:LP}:∀ h,(begN n cs h).length=80
 |0=>by simp[begN]|h+1=>by rw[zJZ,zL7];exact zME h
theorem zSy{n:Nw}{h:Nat}{w:LI}{cs:LP}{i:Nat}(hi:i<cs.length):begH n h w (cs.take (i+1))=begC n h (begH n h w (cs.take i)) (cs.getD i d0):=zCk hi
theorem zJR{now w:LI}{h o k:Nat}:nxtR now h o w (k+1)=zRt (nxtR now h o w k) (h*8+k) (now.getD (o*8+k) 0):=by
 simp only[nxtR,b9,cE,bM,cv]
theorem zHF{now w:LI}{h o:Nat}:∀ k,(nxtR now h o w k).length=w.length
 |0=>rfl|k+1=>by rw[zJR,zIH];exact zHF k
theorem zMh{now:LI}{h:Nat}:∀ {l:LN} {w:LI},(nxtH now h w l).length=w.length
 |[],_=>rfl|o::l,w=>by
  show(nxtH now h (nxtR now h o w 8) l).length=_
  rw[zMh,zHF]
theorem zKb{n:Nw}{now:LI}{h:Nat}:nxtN n now (h+1)=nxtH now h (nxtN n now h) (zHN n h n.h.toNat):=by
 simp only[nxtN,b9,cE,bM,cv]
theorem zI5{n:Nw}{now:LI}:∀ h,(nxtN n now h).length=now.length
 |0=>rfl|h+1=>by rw[zKb,zMh];exact zI5 h
theorem zRO{now:LI}{h:Nat}{w:LI}{l:LN}{i:Nat}(hi:i<l.length):nxtH now h w (l.take (i+1))=nxtR now h (l.getD i 0) (nxtH now h w (l.take i)) 8:=zCk hi
theorem zQu{n:Nw}{cs:LP}:(zKC n cs).length=80:=zME _
theorem zRJ{n:Nw}{w:LI}(h:w.length=80):(zCf n w).length=80:=by rw[zCf,zI5,h]
theorem zBe{n:Nw}{cs:LP}:∀ k,(zAy n cs k).length=80
 |0=>zQu|k+1=>zRJ (zBe k)
theorem zI8{F:LI}{i:Nat}{a:Int}(hF:F.length=8)(hi:i<8)(ha : -1<=a/\a<i)(j:Nat):(zNn F i a).getD j 0=if j=i then(if a = -1 then(i:Int) else F.getD a.toNat 0) else F.getD j 0:=by
 unfold zNn;by_cases hj:j=i
 ·subst hj;rw[if_pos rfl];split
  ·rw[zBL,if_pos ⟨rfl,by omega⟩]
  ·rw[zBL,if_pos ⟨rfl,by simp;omega⟩,zBL,if_neg (by omega)]
 ·rw[if_neg hj];split
  ·rw[zBL,if_neg (fun h=>hj h.1.symm)]
  ·rw[zBL,if_neg (fun h=>hj h.1.symm),zBL,if_neg (fun h=>hj h.1.symm)]
theorem zOg{n:Nw}(ho:NwOk n):∀ i,i<=n.n.length->∀ j,j<i->0<=(zPr n.n i).getD j 0/\(zPr n.n i).getD j 0<=j
 |0,_,j,hj=>absurd hj (cD j)
 | i + 1,hi,j,hj=>by
  have h8:=ho.nl.2;have ha:=ho.na i (by omega);rw[zPr,zI8 (zHy i) (by omega) ha];split
  ·subst j;split
   ·omega
   ·have:=zOg ho i (by omega) ((n.n.getD i d0).1.toNat) (by omega);omega
  ·exact zOg ho i (by omega) j (by omega)
theorem zBK{n:Nw}(ho:NwOk n)(j:Nat)(hj:j<n.n.length):0<=(zAg n).getD j 0/\(zAg n).getD j 0<=j:=zOg ho _ (bf _) j hj
theorem zTM{n:Nw}:(zAN n).length=8:=zIS _
theorem f100(n:Nw)(cs:LP)(ho:CrW n cs):FG 100 [zE9 n cs] (hdV (zKC n cs)):=by
 have hb:=ho.nw.h;have hn:=ho.nw;have yN:=ho.len;refine zAd Tryz.f100 ?_;refine zAj 1<|zAj 1<|zAc<|zAj 1<|zAf 0 ?_
 refine zAr (fun(h,w)=>h<=10/\w.length=80/\∀ j,j<h*8->w.getD j 0 = -1) (fun(h,w)=>[(3,.box (hdV w)),(11,I (h:Nat))]) (fun(h,_)=>10-h) ((0:Nat),replicate 80 0) ⟨by omega,rfl,fun j h=>by omega⟩ fun(h,w) ⟨hh,hw,ha⟩=>?_;by_cases hhl:h<10
 ·refine zAj 1<|zAc<|zAM ((h:Int)<10) (by omega)<|zAh<|zAc<|zAf 1<|zAj 2<|zAj 1<|zAf 2 ?_
  refine zAr (fun(i,v)=>i<=8/\v.length=80/\∀ j,j<h*8+i->v.getD j 0 = -1) (fun(i,v)=>[(3,.box (hdV v)),(14,I (i:Nat))]) (fun(i,_)=>8-i) ((0:Nat),w) ⟨by omega,hw,fun j h=>ha j (by omega)⟩ fun(i,v) ⟨hi,hv,hav⟩=>?_;by_cases yR:i<8
  ·refine zAj 1<|zAc<|zAM ((i:Int)<8) (by omega)<|zAh<|zAc<|zAf 3<|zAj 2<|zAb<|zAm 2<|S_a [(2,.ob)] (ap ((by exact zAp (by omega)):decide (h<10)=true) an)<|S_a [(2,.ob)] (ap ((by exact zAp (by omega)):decide (i<8)=true) an)<|S_a [(7,.root ((agg (zA5 (v.set (h*8+i) (-1)) 80)).box) true)] (ap (zQP (zLs (q:=(agg (zA5 v 80)).box) (xs:=[agg (zA5 v 80)]) (x:=agg (zA5 v 80)) (y:=agg (zA5 (v.set (h*8+i) (-1)) 80)) (q':=(agg (zA5 (v.set (h*8+i) (-1)) 80)).box) rfl (zOu (F:=v) (m:=80) (j:=h*8+i) (u:=-1) (by first|rfl|exact zCc (by kernel_rfl)|exact zCd (by kernel_rfl)|exact zDQ (by kernel_rfl) (by kernel_rfl)|exact zDY (by kernel_rfl)|exact zD7 (by kernel_rfl) (by kernel_rfl)|exact zDR (by kernel_rfl)|(simp;done)) (by omega) (by omega)) rfl (hb:=zO5 (F:=v) (m:=80) (j:=h*8+i) (by first|rfl|exact zCc (by kernel_rfl)|exact zCd (by kernel_rfl)|exact zDQ (by kernel_rfl) (by kernel_rfl)|exact zDY (by kernel_rfl)|exact zD7 (by kernel_rfl) (by kernel_rfl)|exact zDR (by kernel_rfl)|(simp;done)) (by omega))) rfl:zBv (agg (zA5 v 80)).box [] 0 (0+(h:Int).toNat*(fun x=>x.size) Tryz.prog.types[128]+(i:Int).toNat*(fun x=>x.size) Tryz.prog.types[3]) (I (-1)).cells=some (agg (zA5 (v.set (h*8+i) (-1)) 80)).box/\zAI (agg (zA5 v 80)).box (agg (zA5 (v.set (h*8+i) (-1)) 80)).box []=true) an)<|zA3<|zAb<|S_i i<|S_g 1 ?_
   refine⟨(i+1,v.set (h*8+i) (-1)),⟨by omega,by simpa using hv,fun j hj=>?_⟩,by simp only;omega,by kernel_rfl,by kernel_rfl⟩;rw[zBL];split
   ·rfl
   ·exact hav j (by omega)
  ·refine zAj 1<|zAc<|zAQ ((i:Int)<8) (by omega)<|zAD 2<|zAb<|S_i h<|S_g 1 ?_
   exact rnd (h+1,v) ⟨by omega,hv,fun j hj=>hav j (by omega)⟩ (by simp only;omega)
 ·have hw0:w=replicate 80 (-1):=by
   refine iz (by simp[hw]) fun j h1 h2=>?_;have:=ha j (by omega);rw[zAu h1] at this;rw[this,fG]
  clear ha;have hw0':begN n cs 0=w:=by rw[hw0];rfl
  clear hw0;refine zAj 1<|zAc<|zAQ ((h:Int)<10) (by omega)<|zAD 0<|zAj 3<|zAc<|zAj 6<|zAf 4 ?_
  refine zAr (fun(h,v)=>h<=n.h.toNat/\v=begN n cs h) (fun(h,v)=>[(3,.box (hdV v)),(30,I (h:Nat))]) (fun(h,_)=>n.h.toNat-h) ((0:Nat),w) ⟨by omega,hw0'.symm⟩ fun(h,v) ⟨hh,hv⟩=>?_;have kH:v.length=80:=by rw[hv];exact zME h
  by_cases hhl:(h:Int)<n.h
  ·have yD:=zJZ (n:=n) (cs:=cs) (h:=h);rw[<- hv] at yD;refine zAj 1<|zAc<|zAM ((h:Int)<n.h) (by omega)<|zAh<|zAc<|zAf 5<|zAj 2<|zAl 4<|S_a [(0,.n cs.length)] (ap (lnS prV cs) an)<|S_g 1<|zAf 6 ?_
   refine zAr (fun(i,q)=>i<=cs.length/\q=begH n h v (cs.take i)) (fun(i,q)=>[(3,.box (hdV q)),(38,I (i:Nat))]) (fun(i,_)=>cs.length-i) ((0:Nat),v) ⟨by omega,rfl⟩ fun(i,q) ⟨hi,hq⟩=>?_;have wF:q.length=80:=by rw[hq,zL7];exact kH
   by_cases yR:i<cs.length
   ·have hci:=zCl (d:=d0) ho.cs i yR;have yM:=zSy (n:=n) (h:=h) (w:=v) yR;rw[<- hq] at yM;have gW:=zBK hn (cs.getD i d0).1.toNat (by omega);have vS:=hn.nl;have jF:=hci.2;have vq:0<=(cs.getD i d0).1/\(cs.getD i d0).1<8:=by omega
    have gI:((zAg n).getD (cs.getD i d0).1.toNat 0).toNat<8:=by have:=hn.nl;omega
    clear yD hv hq;refine zAj 1<|zAc<|zAM ((i:Int)<(cs.length:Int)) (by omega)<|zAh<|zAc<|zAf 7<|zAc<|zAb<|S_a [(2,.v (prV (cs.getD i d0)))] (ap (zBN d0 (by omega):(map prV cs)[i]? = some (prV (cs.getD i d0))) an)<|S_g 3<|zAl 4<|S_a [(9,.ret (bool (has (n.s.getD (cs.getD i d0).snd.toNat []) (h:Int))) [])] (ap (f140 n (prs cs) (map pr2 n.l) (zAg n) (zAN n) (by omega) ((h:Int)) ((cs.getD i d0).snd) (by omega)) an)<|zA3<|zEx (has (n.s.getD (cs.getD i d0).snd.toNat []) (h:Int)) (fun k0=>(zAl 5<|S_a [(0,.ob),(1,.ob),(0,.v ((I ((zAg n).getD (cs.getD i d0).fst.toNat 0)).ref))] (ap ((by exact zAp (by omega)):decide (0<=(cs.getD i d0).fst)=true)<|ap ((by exact zAp (by omega)):decide ((cs.getD i d0).fst.toNat<8)=true)<|ap (zD0 (F:=zAg n) (m:=8) (j:=(cs.getD i d0).fst.toNat) (by omega):zBQ (agg (zA5 (zAg n) 8)).ref ((cs.getD i d0).fst.toNat*(fun x=>x.size) Tryz.prog.types[3]) none=some (I ((zAg n).getD (cs.getD i d0).fst.toNat 0)).ref) an)<|S_g 2<|zAb<|zAm 4<|S_a [(2,.ob)] (ap ((by exact zAp (by omega)):decide (h<10)=true) an)<|S_a [(0,.ob),(1,.ob)] (ap ((by exact zAp (by omega)):decide (0<=(zAg n).getD (cs.getD i d0).fst.toNat 0)=true)<|ap ((by exact zAp (by omega)):decide (((zAg n).getD (cs.getD i d0).fst.toNat 0).toNat<8)=true) an)<|S_a [(0,.cs true ([I (q.getD (h*8+((zAg n).getD (cs.getD i d0).fst.toNat 0).toNat) 0)]))] (ap (zCn (q:=(agg (zA5 q 80)).box) (xs:=[agg (zA5 q 80)]) (x:=agg (zA5 q 80)) rfl rfl (zFk (F:=q) (m:=80) (j:=h*8+((zAg n).getD (cs.getD i d0).fst.toNat 0).toNat) (by first|rfl|exact zCc (by kernel_rfl)|exact zCd (by kernel_rfl)|exact zDQ (by kernel_rfl) (by kernel_rfl)|exact zDY (by kernel_rfl)|exact zD7 (by kernel_rfl) (by kernel_rfl)|exact zDR (by kernel_rfl)|(simp;done)) (by omega)):zAq 3 (agg (zA5 q 80)).box [] 0 (0+(h:Int).toNat*(fun x=>x.size) Tryz.prog.types[128]+((zAg n).getD (cs.getD i d0).fst.toNat 0).toNat*(fun x=>x.size) Tryz.prog.types[3]) 1=some (true,[I (q.getD (h*8+((zAg n).getD (cs.getD i d0).fst.toNat 0).toNat) 0)])) an)<|zAm 3<|S_a [(9,.ret (I (max (q.getD (h*8+((zAg n).getD (cs.getD i d0).fst.toNat 0).toNat) 0) (cs.getD i d0).fst)) [])] (ap (f165 (q.getD (h*8+((zAg n).getD (cs.getD i d0).fst.toNat 0).toNat) 0) ((cs.getD i d0).fst)) an)<|S_a [(2,.ob)] (ap ((by exact zAp (by omega)):decide (h<10)=true) an)<|S_a [(0,.ob),(1,.ob)] (ap ((by exact zAp (by omega)):decide (0<=(zAg n).getD (cs.getD i d0).fst.toNat 0)=true)<|ap ((by exact zAp (by omega)):decide (((zAg n).getD (cs.getD i d0).fst.toNat 0).toNat<8)=true) an)<|S_a [(8,.root ((agg (zA5 (q.set (h*8+((zAg n).getD (cs.getD i d0).fst.toNat 0).toNat) (max (q.getD (h*8+((zAg n).getD (cs.getD i d0).fst.toNat 0).toNat) 0) (cs.getD i d0).fst)) 80)).box) true)] (ap (zQP (zLs (q:=(agg (zA5 q 80)).box) (xs:=[agg (zA5 q 80)]) (x:=agg (zA5 q 80)) (y:=agg (zA5 (q.set (h*8+((zAg n).getD (cs.getD i d0).fst.toNat 0).toNat) (max (q.getD (h*8+((zAg n).getD (cs.getD i d0).fst.toNat 0).toNat) 0) (cs.getD i d0).fst)) 80)) (q':=(agg (zA5 (q.set (h*8+((zAg n).getD (cs.getD i d0).fst.toNat 0).toNat) (max (q.getD (h*8+((zAg n).getD (cs.getD i d0).fst.toNat 0).toNat) 0) (cs.getD i d0).fst)) 80)).box) rfl (zOu (F:=q) (m:=80) (j:=h*8+((zAg n).getD (cs.getD i d0).fst.toNat 0).toNat) (u:=max (q.getD (h*8+((zAg n).getD (cs.getD i d0).fst.toNat 0).toNat) 0) (cs.getD i d0).fst) (by first|rfl|exact zCc (by kernel_rfl)|exact zCd (by kernel_rfl)|exact zDQ (by kernel_rfl) (by kernel_rfl)|exact zDY (by kernel_rfl)|exact zD7 (by kernel_rfl) (by kernel_rfl)|exact zDR (by kernel_rfl)|(simp;done)) (by omega) (by omega)) rfl (hb:=zO5 (F:=q) (m:=80) (j:=h*8+((zAg n).getD (cs.getD i d0).fst.toNat 0).toNat) (by first|rfl|exact zCc (by kernel_rfl)|exact zCd (by kernel_rfl)|exact zDQ (by kernel_rfl) (by kernel_rfl)|exact zDY (by kernel_rfl)|exact zD7 (by kernel_rfl) (by kernel_rfl)|exact zDR (by kernel_rfl)|(simp;done)) (by omega))) rfl:zBv (agg (zA5 q 80)).box [] 0 (0+(h:Int).toNat*(fun x=>x.size) Tryz.prog.types[128]+((zAg n).getD (cs.getD i d0).fst.toNat 0).toNat*(fun x=>x.size) Tryz.prog.types[3]) (I (max (q.getD (h*8+((zAg n).getD (cs.getD i d0).fst.toNat 0).toNat) 0) (cs.getD i d0).fst)).cells=some (agg (zA5 (q.set (h*8+((zAg n).getD (cs.getD i d0).fst.toNat 0).toNat) (max (q.getD (h*8+((zAg n).getD (cs.getD i d0).fst.toNat 0).toNat) 0) (cs.getD i d0).fst)) 80)).box/\zAI (agg (zA5 q 80)).box (agg (zA5 (q.set (h*8+((zAg n).getD (cs.getD i d0).fst.toNat 0).toNat) (max (q.getD (h*8+((zAg n).getD (cs.getD i d0).fst.toNat 0).toNat) 0) (cs.getD i d0).fst)) 80)).box []=true) an)<|zA3<|zAb<|S_i i<|S_g 1 ?_)) (fun k0=>(zAh<|zAb<|S_i i<|S_g 1 ?_))
    ·rw[begC,if_pos k0] at yM;exact rnd (i+1,zRt q (h*8+((zAg n).getD (cs.getD i d0).1.toNat 0).toNat) (cs.getD i d0).1) ⟨by omega,yM.symm⟩ (by simp only;omega)
    ·rw[begC,if_neg (by rw[k0];simp)] at yM;exact rnd (i+1,q) ⟨by omega,yM.symm⟩ (by simp only;omega)
   ·refine zAj 1<|zAc<|zAQ ((i:Int)<(cs.length:Int)) (by omega)<|zAD 6<|zAb<|S_i h<|S_g 1 ?_
    rw[bw (by omega)] at hq;exact rnd (h+1,q) ⟨by omega,by rw[yD,hq]⟩ (by simp only;omega)
  ·have e:h=n.h.toNat:=by omega
   subst e;refine zAj 1<|zAc<|zAQ ((n.h.toNat:Int)<n.h) (by omega)<|zAD 4<|zAj 2<|zAn<|E_a [] an (agg (zA5 v 80)) [] ?_ rfl
   rw[hv];rfl
theorem zHX{n:Nw}{h o m:Nat}(ho:o∈zHN n h m):o<m:=by
 simp only[zHN,bO,bF] at ho;exact ho.1
theorem zVc{w:LI}{o i:Nat}(hi:i<8):((w.drop o).take 8).getD i 0=w.getD (o+i) 0:=by
 simp[bU,cu,hi]
theorem f101(n:Nw)(cs:LP)(now:LI)(ho:NwOk n)(hw:now.length=80):FG 101 [zE9 n cs,hdV now] (hdV (zCf n now)):=by
 have hb:=ho.h;refine zAd Tryz.f101 ?_;refine zAj 2<|zAj 3<|zAc<|zAj 6<|zAf 0 ?_
 refine zAr (fun(h,v)=>h<=n.h.toNat/\v=nxtN n now h) (fun(h,v)=>[(5,.box (hdV v)),(16,I (h:Nat))]) (fun(h,_)=>n.h.toNat-h) ((0:Nat),now) ⟨by omega,rfl⟩ fun(h,v) ⟨hh,hv⟩=>?_;have kH:v.length=80:=by rw[hv,zI5];exact hw
 by_cases hhl:(h:Int)<n.h
 ·have yD:=zKb (n:=n) (now:=now) (h:=h);rw[<- hv] at yD;have hA:=zV4 n cs h ho hhl;refine zAj 1<|zAc<|zAM ((h:Int)<n.h) (by omega)<|zAh<|zAc<|zAf 1<|zAj 3<|zAl 2<|S_a [(7,.ret (func 169 [] [(zE9 n cs).ref,(I (h:Int)).ref]) [])] (ap (f116 n cs ((h:Int))) an)<|zA3<|zAf 2 ?_
  refine zPc (t:=21) hA (fun j q=>q=nxtH now h v ((zHN n h n.h.toNat).take j)) (fun q=>[(5,.box (hdV q))]) v rfl (fun j x q hx hq=>?_) (fun q hq=>?_)
  ·rw[cH] at hx;obtain⟨o,hm,rfl⟩:=bm.1 hx;have hj:j<(zHN n h n.h.toNat).length:=(bg.1 hm).1;have qD:o<n.h.toNat:=zHX (bH hm);have wF:q.length=80:=by rw[hq,zMh];exact kH
   have yM:=zRO (now:=now) (h:=h) (w:=v) hj;rw[<- hq,show(zHN n h n.h.toNat).getD j 0=o by simp[bU,hm]] at yM;clear yD hv hA hq hm hj;refine zPt ?_;refine zAb<|S_g 1 ?_
   refine⟨rfl,by kernel_rfl,?_⟩;refine zAf 3<|zAl 1<|S_a [(2,.ob)] (ap ((by exact zAp (by omega)):decide (o<10)=true) an)<|S_a [(0,.cs true (zA5 (take 8 (drop (o*8) now)) 8))] (ap (zCn (q:=(agg (zA5 now 80)).box) (xs:=[agg (zA5 now 80)]) (x:=agg (zA5 now 80)) rfl rfl (zX8 (K:=8) (c:=o*8) (by omega) (by first|rfl|exact zCc (by kernel_rfl)|exact zCd (by kernel_rfl)|exact zDR (by kernel_rfl)|(simp;done)) (by omega) (by kernel_rfl)):zAq 3 (agg (zA5 now 80)).box [] 0 (0+(o:Int).toNat*(fun x=>x.size) Tryz.prog.types[128]) Tryz.prog.types[128].size=some (true,zA5 (take 8 (drop (o*8) now)) 8)) an)<|S_g 1<|zAf 4 ?_
   refine zAr (fun(i,p)=>i<=8/\p=nxtR now h o q i) (fun(i,p)=>[(5,.box (hdV p)),(26,I (i:Nat))]) (fun(i,_)=>8-i) ((0:Nat),q) ⟨by omega,rfl⟩ fun(i,p) ⟨hi,hp⟩=>?_;have kR:p.length=80:=by rw[hp,zHF];exact wF
   by_cases yR:i<8
   ·have yx:=zJR (now:=now) (w:=q) (h:=h) (o:=o) (k:=i);rw[<- hp,<- zVc yR] at yx;refine zAj 1<|zAc<|zAM ((i:Int)<8) (by omega)<|zAh<|zAc<|zAf 5<|zAl 1<|S_a [(2,.ob),(0,.v (I ((take 8 (drop (o*8) now)).getD i 0)))] (ap ((by exact zAp (by omega)):decide (i<8)=true)<|ap (zUA (F:=take 8 (drop (o*8) now)) (m:=8) (j:=i) (by omega):sub (agg (zA5 (take 8 (drop (o*8) now)) 8)) (i*(fun x=>x.size) Tryz.prog.types[3]) none=some (I ((take 8 (drop (o*8) now)).getD i 0))) an)<|S_g 2<|zAb<|zAm 4<|S_a [(2,.ob)] (ap ((by exact zAp (by omega)):decide (h<10)=true) an)<|S_a [(2,.ob)] (ap ((by exact zAp (by omega)):decide (i<8)=true) an)<|S_a [(0,.cs true ([I (p.getD (h*8+i) 0)]))] (ap (zCn (q:=(agg (zA5 p 80)).box) (xs:=[agg (zA5 p 80)]) (x:=agg (zA5 p 80)) rfl rfl (zFk (F:=p) (m:=80) (j:=h*8+i) (by first|rfl|exact zCc (by kernel_rfl)|exact zCd (by kernel_rfl)|exact zDQ (by kernel_rfl) (by kernel_rfl)|exact zDY (by kernel_rfl)|exact zD7 (by kernel_rfl) (by kernel_rfl)|exact zDR (by kernel_rfl)|(simp;done)) (by omega)):zAq 5 (agg (zA5 p 80)).box [] 0 (0+(h:Int).toNat*(fun x=>x.size) Tryz.prog.types[128]+(i:Int).toNat*(fun x=>x.size) Tryz.prog.types[3]) 1=some (true,[I (p.getD (h*8+i) 0)])) an)<|zAm 2<|S_a [(9,.ret (I (max (p.getD (h*8+i) 0) ((take 8 (drop (o*8) now)).getD i 0))) [])] (ap (f165 (p.getD (h*8+i) 0) ((take 8 (drop (o*8) now)).getD i 0)) an)<|S_a [(2,.ob)] (ap ((by exact zAp (by omega)):decide (h<10)=true) an)<|S_a [(2,.ob)] (ap ((by exact zAp (by omega)):decide (i<8)=true) an)<|S_a [(8,.root ((agg (zA5 (p.set (h*8+i) (max (p.getD (h*8+i) 0) ((take 8 (drop (o*8) now)).getD i 0))) 80)).box) true)] (ap (zQP (zLs (q:=(agg (zA5 p 80)).box) (xs:=[agg (zA5 p 80)]) (x:=agg (zA5 p 80)) (y:=agg (zA5 (p.set (h*8+i) (max (p.getD (h*8+i) 0) ((take 8 (drop (o*8) now)).getD i 0))) 80)) (q':=(agg (zA5 (p.set (h*8+i) (max (p.getD (h*8+i) 0) ((take 8 (drop (o*8) now)).getD i 0))) 80)).box) rfl (zOu (F:=p) (m:=80) (j:=h*8+i) (u:=max (p.getD (h*8+i) 0) ((take 8 (drop (o*8) now)).getD i 0)) (by first|rfl|exact zCc (by kernel_rfl)|exact zCd (by kernel_rfl)|exact zDQ (by kernel_rfl) (by kernel_rfl)|exact zDY (by kernel_rfl)|exact zD7 (by kernel_rfl) (by kernel_rfl)|exact zDR (by kernel_rfl)|(simp;done)) (by omega) (by omega)) rfl (hb:=zO5 (F:=p) (m:=80) (j:=h*8+i) (by first|rfl|exact zCc (by kernel_rfl)|exact zCd (by kernel_rfl)|exact zDQ (by kernel_rfl) (by kernel_rfl)|exact zDY (by kernel_rfl)|exact zD7 (by kernel_rfl) (by kernel_rfl)|exact zDR (by kernel_rfl)|(simp;done)) (by omega))) rfl:zBv (agg (zA5 p 80)).box [] 0 (0+(h:Int).toNat*(fun x=>x.size) Tryz.prog.types[128]+(i:Int).toNat*(fun x=>x.size) Tryz.prog.types[3]) (I (max (p.getD (h*8+i) 0) ((take 8 (drop (o*8) now)).getD i 0))).cells=some (agg (zA5 (p.set (h*8+i) (max (p.getD (h*8+i) 0) ((take 8 (drop (o*8) now)).getD i 0))) 80)).box/\zAI (agg (zA5 p 80)).box (agg (zA5 (p.set (h*8+i) (max (p.getD (h*8+i) 0) ((take 8 (drop (o*8) now)).getD i 0))) 80)).box []=true) an)<|zA3<|zAb<|S_i i<|S_g 1 ?_
    exact rnd (i+1,_) ⟨by omega,yx.symm⟩ (by simp only;omega)
   ·refine zAj 1<|zAc<|zAQ ((i:Int)<8) (by omega)<|zAD 4 ?_
    rw[show i=8 by omega] at hp;exact⟨by kernel_rfl,p,by rw[yM,hp],by kernel_rfl⟩
  ·rw[be,dt] at hq;show W _ _ _ _ _ _ _ _
   refine zAb<|S_i h<|S_g 1 ?_
   exact rnd (h+1,q) ⟨by omega,by rw[yD,hq]⟩ (by simp only;omega)
 ·have e:h=n.h.toNat:=by omega
  subst e;refine zAj 1<|zAc<|zAQ ((n.h.toNat:Int)<n.h) (by omega)<|zAD 0<|zAj 2<|zAn<|E_a [] an (agg (zA5 v 80)) [] ?_ rfl
  rw[hv];rfl
end Go.Eng
set_option maxRecDepth 10000
set_option maxHeartbeats 4000000
namespace Go.Eng
open Go Go.Proofs
def zLr(n:Nw)(w:LI)(h i:Nat):Bool:=decide (w.getD (h*8+((zAg n).getD i 0).toNat) 0=i)&&decide ((zAN n).getD i 0≠i)
def zN9(n:Nw)(w:LI)(h k:Nat):LP:=((range k).filter fun i=>zLr n w h i).map fun(i:Nat)=>((h:Int),(i:Int))
def zUm(n:Nw)(w:LI)(h:Nat):LP:=(range h).flatMap fun h=>zN9 n w h n.n.length
def zAA(n:Nw)(w:LI):LP:=zUm n w n.h.toNat
theorem zSv{n:Nw}{w:LI}{h k:Nat}:zN9 n w h (k+1)=if zLr n w h k=true then zN9 n w h k++[((h:Int),(k:Int))] else zN9 n w h k:=by
 unfold zN9;rw[b9,dv,cT];by_cases hn:zLr n w h k=true
 ·rw[if_pos hn];simp[hn]
 ·rw[if_neg hn];simp[hn]
theorem zM7{n:Nw}{w:LI}{h:Nat}:zUm n w (h+1)=zUm n w h++zN9 n w h n.n.length:=by
 unfold zUm;rw[b9,fy];simp
theorem zQg{n:Nw}{w:LI}{h k:Nat}:(zN9 n w h k).length<=k:=by
 unfold zN9;rw[be];exact bB (bC _ _) (by simp)
theorem zMi{n:Nw}{w:LI}:∀ h,(zUm n w h).length<=h*n.n.length
 |0=>by simp[zUm]|h+1=>by
  have h1:=zMi (n:=n) (w:=w) h;have h2:=zQg (n:=n) (w:=w) (h:=h) (k:=n.n.length);rw[zM7,bu,cZ];omega
theorem zCY{n:Nw}{w:LI}(ho:NwOk n):(zAA n w).length<=80:=by
 have h1:=zMi (n:=n) (w:=w) n.h.toNat;have h2:=ho.h;have h3:=ho.nl;have h4:n.h.toNat*n.n.length<=10*8:=f7 (by omega) (by omega);unfold zAA;omega
theorem f92(n:Nw)(cs:LP)(e:Int)(ho:CrW n cs)(he:0<=e/\e<=1000):FG 92 [zE9 n cs,I e] (hdV (zAy n cs e.toNat)):=by
 have hn:=ho.nw;refine zAd Tryz.f92 ?_;refine zAj 1<|zAl 1<|S_a [(5,.ret (hdV (zKC n cs)) [])] (ap (f100 n cs (by omega)) an)<|S_g 2<|zAc<|zAj 2<|zAf 0 ?_
 refine zAr (fun(k,w)=>k<=e.toNat/\w=zAy n cs k) (fun(k,w)=>[(5,.box (hdV w)),(9,I (k:Nat))]) (fun(k,_)=>e.toNat-k) ((0:Nat),zKC n cs) ⟨by omega,rfl⟩ fun(k,w) ⟨hk,hw⟩=>?_;have qE:w.length=80:=by rw[hw];exact zBe k
 by_cases vd:(k:Int)<e
 ·refine zAj 1<|zAc<|zAM ((k:Int)<e) (by omega)<|zAh<|zAc<|zAf 1<|zAb<|zAm 2<|S_a [(7,.ret (hdV (zCf n w)) [])] (ap (f101 n cs w (by omega) (by omega)) an)<|S_g 1<|zAb<|S_i k<|S_g 1 ?_
  exact rnd (k+1,zCf n w) ⟨by omega,by rw[hw];rfl⟩ (by simp only;omega)
 ·refine zAj 1<|zAc<|zAQ ((k:Int)<e) (by omega)<|zAD 0<|zAj 2<|zAn<|E_a [] an (agg (zA5 w 80)) [] ?_ rfl
  rw[hw,show k=e.toNat by omega]
theorem f91(n:Nw)(cs:LP)(w:LI)(ho:NwOk n)(hw:w.length=80):FG 91 [zE9 n cs,hdV w] (.own 2 ((zAA n w).map prV)):=by
 have hb:=ho.h;have vS:=ho.nl;refine zAd Tryz.f91 ?_;refine zAj 2<|zAj 1<|zAc<|zAj 6<|zAf 0 ?_
 refine zAr (fun(h,l)=>h<=n.h.toNat/\l=zUm n w h) (fun(h,l)=>[(5,.own 2 (l.map prV)),(13,I (h:Nat))]) (fun(h,_)=>n.h.toNat-h) ((0:Nat),([]:LP)) ⟨by omega,rfl⟩ fun(h,l) ⟨hh,hl⟩=>?_;have uu:l.length<=h*8:=by
  have h1:=zMi (n:=n) (w:=w) h;rw[<- hl] at h1;exact bB h1 (f7 (bf _) (by omega))
 by_cases hhl:(h:Int)<n.h
 ·have yD:=zM7 (n:=n) (w:=w) (h:=h);rw[<- hl] at yD;refine zAj 1<|zAc<|zAM ((h:Int)<n.h) (by omega)<|zAh<|zAc<|zAf 1<|zAj 2<|zAl 5<|S_a [(0,.n n.n.length)] (ap (lnS ntV n.n) an)<|S_g 1<|zAf 2 ?_
  refine zAr (fun(i,m)=>i<=n.n.length/\m=l++zN9 n w h i) (fun(i,m)=>[(5,.own 2 (m.map prV)),(22,I (i:Nat))]) (fun(i,_)=>n.n.length-i) ((0:Nat),l) ⟨by omega,by simp[zN9]⟩ fun(i,m) ⟨hi,hm⟩=>?_;have hml:m.length<=88:=by
   have:=zQg (n:=n) (w:=w) (h:=h) (k:=i);rw[hm,bu];omega
  by_cases yR:i<n.n.length
  ·have yx:=zSv (n:=n) (w:=w) (h:=h) (k:=i);have gW:=zBK ho i yR;have gI:0<=(zAg n).getD i 0/\(zAg n).getD i 0<8:=by omega
   clear yD;have jf:zLr n w h i=false->m=l++zN9 n w h (i+1):=fun hg=>by rw[yx,if_neg (by rw[hg];simp)];exact hm
   refine zAj 1<|zAc<|zAM ((i:Int)<(n.n.length:Int)) (by omega)<|zAh<|zAc<|zAf 3<|zAj 2<|zAl 5<|S_a [(2,.ob),(0,.v ((I ((zAg n).getD i 0)).ref))] (ap ((by exact zAp (by omega)):decide (i<8)=true)<|ap (zD0 (F:=zAg n) (m:=8) (j:=i) (by omega):zBQ (agg (zA5 (zAg n) 8)).ref (i*(fun x=>x.size) Tryz.prog.types[3]) none=some (I ((zAg n).getD i 0)).ref) an)<|zAm 1<|S_a [(2,.ob)] (ap ((by exact zAp (by omega)):decide (h<10)=true) an)<|S_a [(0,.ob),(1,.ob)] (ap ((by exact zAp (by omega)):decide (0<=(zAg n).getD i 0)=true)<|ap ((by exact zAp (by omega)):decide (((zAg n).getD i 0).toNat<8)=true) an)<|S_a [(0,.cs true ([I (w.getD (h*8+((zAg n).getD i 0).toNat) 0)]))] (ap (zCn (q:=(agg (zA5 w 80)).box) (xs:=[agg (zA5 w 80)]) (x:=agg (zA5 w 80)) rfl rfl (zFk (F:=w) (m:=80) (j:=h*8+((zAg n).getD i 0).toNat) (by first|rfl|exact zCc (by kernel_rfl)|exact zCd (by kernel_rfl)|exact zDQ (by kernel_rfl) (by kernel_rfl)|exact zDY (by kernel_rfl)|exact zD7 (by kernel_rfl) (by kernel_rfl)|exact zDR (by kernel_rfl)|(simp;done)) (by omega)):zAq 3 (agg (zA5 w 80)).box [] 0 (0+(h:Int).toNat*(fun x=>x.size) Tryz.prog.types[128]+((zAg n).getD i 0).toNat*(fun x=>x.size) Tryz.prog.types[3]) 1=some (true,[I (w.getD (h*8+((zAg n).getD i 0).toNat) 0)])) an)<|zAm 3<|zNU 37 (w.getD (h*8+((zAg n).getD i 0).toNat) 0=(i:Int)) (fun k0=>(zAm 4<|S_a [(2,.ob),(0,.v ((I ((zAN n).getD i 0)).ref))] (ap ((by exact zAp (by omega)):decide (i<8)=true)<|ap (zD0 (F:=zAN n) (m:=8) (j:=i) (by omega):zBQ (agg (zA5 (zAN n) 8)).ref (i*(fun x=>x.size) Tryz.prog.types[3]) none=some (I ((zAN n).getD i 0)).ref) an)<|S_g 4<|zEk ((zAN n).getD i 0=(i:Int)) (fun k1=>(zAb<|zAm 5<|S_a [(4,.ob),(0,.ob),(0,.yes),(2,.v (own 2 (map prV (m++[((h:Int),(i:Int))]))))] (ap (blz (map prV m))<|ap ((by exact zAR (by simp only[be,zzLn,zAO]<;>omega)):((map prV m).length + [agg [I (h:Int),I (i:Int)]].length).ble zAO=true)<|ap ((by exact zBq (by simp<;>omega)):(0+(map prV m).length).beq (map prV m).length=true)<|ap ((zAT (zBE (by kernel_rfl))):own 2 (map prV m++[agg [I (h:Int),I (i:Int)]])=own 2 (map prV (m++[((h:Int),(i:Int))]))) an)<|S_g 1<|zAb<|S_i i<|S_g 1 ?_)) (fun k1=>(zAh<|zAb<|S_i i<|S_g 1 ?_)))) (fun k0=>(S_g 9<|zAB<|zAh<|zAb<|S_i i<|S_g 1 ?_))
   ·have hg:zLr n w h i=true:=by simp only[zLr,decide_eq_true k0,cy,decide_eq_true_eq];exact k1
    exact rnd (i+1,m++[((h:Int),(i:Int))]) ⟨by omega,by rw[yx,if_pos hg,hm,cO]⟩ (by simp only;omega)
   ·exact rnd (i+1,m) ⟨by omega,jf (by simp only[zLr,decide_eq_true k0,cy,decide_eq_false_iff_not];exact fun h=>h k1)⟩ (by simp only;omega)
   ·exact rnd (i+1,m) ⟨by omega,jf (by simp only[zLr,decide_eq_false k0,dB])⟩ (by simp only;omega)
  ·refine zAj 1<|zAc<|zAQ ((i:Int)<(n.n.length:Int)) (by omega)<|zAD 2<|zAb<|S_i h<|S_g 1 ?_
   exact rnd (h+1,m) ⟨by omega,by rw[yD,hm,show i=n.n.length by omega]⟩ (by simp only;omega)
 ·have e:h=n.h.toNat:=by omega
  subst e;refine zAj 1<|zAc<|zAQ ((n.h.toNat:Int)<n.h) (by omega)<|zAD 0<|zAl 1<|S_a [(2,.yes)] (ap ((by exact zBq (by simp<;>omega)):(beq 0 0&&(map prV l).length.beq (map prV l).length)=true) an)<|zA3<|zAn<|E_a [(1,.yes),(1,.v (own 2 (map prV l)))] (ap (blz (map prV l))<|ap ((zAT zA6):own 2 (take (map prV l).length (drop 0 (map prV l)))=own 2 (map prV l)) an) (own 2 (map prV l)) [] ?_ rfl
  rw[hl];rfl
theorem f22_1(n:Nw)(cs:LP)(e:Int)(ho:EvOk n cs e):FG 22 [nwV n,prs cs,I e] (.tup [.own 2 ((zAA n (zAy n cs e.toNat)).map prV),I 0]):=by
 have hc:=ho.cr;have kO:=hc.w;have hn:=hc.nw;have he:=ho.ev;have hw:=zBe (n:=n) (cs:=cs) e.toNat;refine zAd Tryz.f22 ?_;refine zAj 3<|zAl 3<|S_a [(10,.ret (tup [zE9 n cs,I 0]) [])] (ap (f90_1 n cs e (by omega)) an)<|S_g 5<|zAc<|zAj 2<|zAB<|zAh<|zAl 3<|S_a [(7,.ret (hdV (zAy n cs e.toNat)) [])] (ap (f92 n cs e (by omega) (by omega)) an)<|S_a [(7,.ret (own 2 (map prV (zAA n (zAy n cs e.toNat)))) [])] (ap (f91 n cs (zAy n cs e.toNat) (by omega) (by omega)) an)<|S_g 2<|zAn<|E_z [(1,.yes),(1,.v (own 2 (map prV (zAA n (zAy n cs e.toNat)))))] (ap (blz (map prV (zAA n (zAy n cs e.toNat))))<|ap ((zAT zA6):own 2 (take (map prV (zAA n (zAy n cs e.toNat))).length (drop 0 (map prV (zAA n (zAy n cs e.toNat)))))=own 2 (map prV (zAA n (zAy n cs e.toNat)))) an)
def msl(n:Nw)(l:LP):LI:=(l.filter fun g=>!(n.n.getD g.2.toNat d0).2).map Prod.fst
theorem zU7{n:Nw}{l:LP}{i:Nat}(hi:i<l.length):msl n (l.take (i+1))=if (n.n.getD (l.getD i d0).2.toNat d0).2=true then msl n (l.take i) else msl n (l.take i)++[(l.getD i d0).1]:=by
 unfold msl;rw[zB5 (d:=d0) hi,dv,cT];generalize l.getD i d0=g;cases hb:(n.n.getD g.2.toNat d0).2
 ·rw[cq (by rw[hb];rfl)];rfl
 ·rw[bV (by rw[hb];simp)];simp
theorem zD3{n:Nw}{w:LI}{g:Int×Int}(hg:g∈zAA n w):∃ h i:Nat,h<n.h.toNat/\i<n.n.length/\g=((h:Int),(i:Int))/\zLr n w h i=true:=by
 simp only[zAA,zUm,cG,bF,zN9,b4,bO] at hg;obtain⟨h,hh,i,⟨hi,hb⟩,rfl⟩:=hg;exact⟨h,i,hh,hi,rfl,hb⟩
theorem f26_1(n:Nw)(cs:LP)(e:Int)(ho:EvOk n cs e):FG 26 [nwV n,prs cs,I e] (.tup [.own 1 ((zHk (msl n (zAA n (zAy n cs e.toNat)))).map I),I 0]):=by
 have hn:=ho.cr.nw;have yA:=zCY (w:=zAy n cs e.toNat) hn;have jC:∀ g∈zAA n (zAy n cs e.toNat),0<=g.2/\g.2<n.n.length:=fun g hg=>by
  obtain⟨h,i,h1,h2,rfl,_⟩:=zD3 hg;simp only;omega
 have h1:=f22_1 n cs e ho;generalize zAA n (zAy n cs e.toNat)=G at *;refine zAd Tryz.f26 ?_;refine zAj 3<|zAl 3<|S_a [(10,.ret (tup [own 2 (map prV G),I 0]) [])] (ap h1 an)<|S_g 5<|zAc<|zAj 2<|zAB<|zAh<|zAj 1<|zAc<|zAl 1<|S_a [(0,.n G.length)] (ap (lnS prV G) an)<|S_g 1<|zAf 0 ?_
 refine zAr (fun(i,l)=>i<=G.length/\l=msl n (G.take i)) (fun(i,l)=>[(10,.own 1 (l.map I)),(25,I (i:Nat))]) (fun(i,_)=>G.length-i) ((0:Nat),([]:LI)) ⟨by omega,by simp[msl]⟩ fun(i,l) ⟨hi,hl⟩=>?_;have uu:l.length<=i:=by
  rw[hl,msl,be];exact bB (bC _ _) (by rw[cj];omega)
 by_cases yR:i<G.length
 ·have yM:=zU7 (n:=n) yR;rw[<- hl] at yM;have uD:=zCl (d:=d0) jC i yR;clear h1 jC;refine zAj 1<|zAc<|zAM ((i:Int)<(G.length:Int)) (by omega)<|zAh<|zAc<|zAf 1<|zAc<|zAb<|S_a [(2,.ob),(1,.n i)] (ap ((by exact zAp (by simp only[be,zzLn]<;>omega)):decide (i<(map prV G).length)=true)<|ap ((by simp):some (0+i)=some i) an)<|S_a [(0,.cs true ([I (G.getD i d0).fst,I (G.getD i d0).snd]))] (ap (zCn (q:=own 2 (map prV G)) (xs:=map prV G) (x:=prV (G.getD i d0)) rfl (zBN d0 (by omega)):zAq 8 (own 2 (map prV G)) [] i 0 Tryz.prog.types[108].size=some (true,[I (G.getD i d0).fst,I (G.getD i d0).snd])) an)<|S_g 2<|zAl 4<|S_a [(0,.ob),(1,.v (agg [I (n.n.getD (G.getD i d0).snd.toNat d0).fst,bool (n.n.getD (G.getD i d0).snd.toNat d0).snd]))] (ap ((by exact zAp (by omega)):decide (0<=(G.getD i d0).snd)=true)<|ap (zBN d0 (by omega):(map ntV n.n)[(G.getD i d0).snd.toNat]? = some (agg [I (n.n.getD (G.getD i d0).snd.toNat d0).fst,bool (n.n.getD (G.getD i d0).snd.toNat d0).snd])) an)<|S_g 3<|zEx (!(n.n.getD (G.getD i d0).snd.toNat d0).snd) (fun k0=>(zAb<|zAm 4<|S_a [(4,.ob),(0,.ob),(0,.yes),(2,.v (own 1 (map I (l++[(G.getD i d0).fst]))))] (ap (blz (map I l))<|ap ((by exact zAR (by simp only[be,zzLn,zAO]<;>omega)):((map I l).length + [I (G.getD i d0).fst].length).ble zAO=true)<|ap ((by exact zBq (by simp<;>omega)):(0+(map I l).length).beq (map I l).length=true)<|ap ((zAT (zBE (by kernel_rfl))):own 1 (map I l++[I (G.getD i d0).fst])=own 1 (map I (l++[(G.getD i d0).fst]))) an)<|S_g 1<|zAb<|S_i i<|S_g 1 ?_)) (fun k0=>(zAh<|zAb<|S_i i<|S_g 1 ?_))
  ·rw[bG] at k0;rw[if_neg (by rw[k0];simp)] at yM;exact rnd (i+1,l++[(G.getD i d0).1]) ⟨by omega,yM.symm⟩ (by simp only;omega)
  ·rw[bE] at k0;rw[if_pos k0] at yM;exact rnd (i+1,l) ⟨by omega,yM.symm⟩ (by simp only;omega)
 ·rw[bw (by omega)] at hl;rw[<- hl];clear h1 jC;refine zAj 1<|zAc<|zAQ ((i:Int)<(G.length:Int)) (by omega)<|zAD 0<|zAl 1<|S_a [(3,.ob),(1,.v (own 1 (map I l))),(2,.ret (own 1 (map I (zHk l))) [])] (ap ((by exact zAR (by simp only[be,zzLn,zAO]<;>omega)):(map I l).length.ble (map I l).length=true)<|ap ((zAT zA6):own 1 (take (map I l).length (drop 0 (map I l)))=own 1 (map I l))<|ap (f97 l (by omega)) an)<|S_g 2<|zAn<|E_z [(1,.yes),(1,.v (own 1 (map I (zHk l))))] (ap (blz (map I (zHk l)))<|ap ((zAT zA6):own 1 (take (map I (zHk l)).length (drop 0 (map I (zHk l))))=own 1 (map I (zHk l))) an)
theorem f29_1(n:Nw)(cs:LP)(k:Nat)(ho:CrOk n cs)(hk:k<=1000)(he:zAy n cs (k+1)=zAy n cs k)(hm:∀ j,j<k->zAy n cs (j+1)≠zAy n cs j):FG 29 [nwV n,prs cs] (.tup [I k,I 0]):=by
 have hn:=ho.nw;have kO:=ho.w;have ya:=zQu (n:=n) (cs:=cs);refine zAd Tryz.f29 ?_;refine zAj 3<|zAl 2<|S_a [(8,.ret (tup [zE9 n cs,I 0]) [])] (ap (f99_1 n cs (by omega)) an)<|S_g 5<|zAc<|zAj 2<|zAB<|zAh<|zAl 1<|S_a [(5,.ret (hdV (zKC n cs)) [])] (ap (f100 n cs (by omega)) an)<|S_g 3<|zAc<|zAl 2<|S_a [(7,.ret (hdV (zCf n (zKC n cs))) [])] (ap (f101 n cs (zKC n cs) (by omega) (by omega)) an)<|S_g 2<|zAf 0 ?_
 refine zAr (fun j=>j<=k) (fun(j:Nat)=>[(8,I (j:Nat)),(9,.box (hdV (zAy n cs j))),(10,.box (hdV (zAy n cs (j+1))))]) (fun j=>k-j) (0:Nat) (by omega) fun j hj=>?_;have vp:=zBe (n:=n) (cs:=cs) j;have vR:=zBe (n:=n) (cs:=cs) (j+1);by_cases hjk:j<k
 ·have hI:=hm j hjk;refine zAc<|zAl 2<|S_a [(0,.v (bool !decide (zAy n cs (j+1)=zAy n cs j)))] (ap (zRW 80 (by omega) (by omega):zG5 Tryz.prog BinOp.neq 130 (agg (zA5 (zAy n cs (j+1)) 80)) (agg (zA5 (zAy n cs j) 80))=some (bool !decide (zAy n cs (j+1)=zAy n cs j))) an)<|zA3<|zJB (zAy n cs (j+1)=zAy n cs j) (by omega)<|zAh<|zAc<|zAf 1<|zAj 2<|zAb<|zAm 1<|S_i j<|S_g 1<|zAc<|zAj 1<|zAb<|S_g 2<|zAb<|zAm 2<|S_a [(7,.ret (hdV (zCf n (zAy n cs (j+1)))) [])] (ap (f101 n cs (zAy n cs (j+1)) (by omega) (by omega)) an)<|S_g 1 ?_
  exact rnd (j+1) (by omega) (by omega)
 ·have e:j=k:=by omega
  subst e;refine zAc<|zAl 2<|S_a [(0,.v (bool !decide (zAy n cs (j+1)=zAy n cs j)))] (ap (zRW 80 (by omega) (by omega):zG5 Tryz.prog BinOp.neq 130 (agg (zA5 (zAy n cs (j+1)) 80)) (agg (zA5 (zAy n cs j) 80))=some (bool !decide (zAy n cs (j+1)=zAy n cs j))) an)<|zA3<|zMB (zAy n cs (j+1)=zAy n cs j) (by omega)<|zAD 0<|zAj 3<|zAn E_0
def zXe(n:Nw)(cs:LP)(k:Nat):Int:=(range k).foldl (fun a k=>if zAA n (zAy n cs k)=[] then a else(k:Int)+1) 0
theorem zRw{n:Nw}{cs:LP}{k:Nat}:zXe n cs (k+1)=if zAA n (zAy n cs k)=[] then zXe n cs k else(k:Int)+1:=by
 simp only[zXe,b9,cE,bM,cv]
theorem f31_1(n:Nw)(cs:LP)(ho:CrOk n cs):FG 31 [nwV n,prs cs] (.tup [if zAA n (zAy n cs 12)=[] then I (zXe n cs 12) else I 0,if zAA n (zAy n cs 12)=[] then I 0 else I 6]):=by
 have hn:=ho.nw;have kO:=ho.w;refine zAd Tryz.f31 ?_;refine zAj 3<|zAl 2<|S_a [(8,.ret (tup [zE9 n cs,I 0]) [])] (ap (f99_1 n cs (by omega)) an)<|S_g 5<|zAc<|zAj 2<|zAB<|zAh<|zAl 1<|S_a [(5,.ret (hdV (zKC n cs)) [])] (ap (f100 n cs (by omega)) an)<|S_g 3<|zAc<|zAj 1<|zAf 0 ?_
 refine zAr (fun k=>k<=12) (fun(k:Nat)=>[(8,I (zXe n cs k)),(9,.box (hdV (zAy n cs k))),(22,I (k:Nat))]) (fun k=>12-k) (0:Nat) (by omega) fun k hk=>?_;have vp:=zBe (n:=n) (cs:=cs) k;have vm:=zCY (w:=zAy n cs k) hn;by_cases vd:k<12
 ·have yx:=zRw (n:=n) (cs:=cs) (k:=k);refine zAj 1<|zAc<|zAM ((k:Int)<12) (by omega)<|zAh<|zAc<|zAf 1<|zAj 2<|zAc<|zAl 2<|S_a [(7,.ret (own 2 (map prV (zAA n (zAy n cs k)))) [])] (ap (f91 n cs (zAy n cs k) (by omega) (by omega)) an)<|S_a [(0,.n ((zAA n (zAy n cs k)).length))] (ap (lnS prV (zAA n (zAy n cs k))) an)<|S_g 1<|zCN ((↑(zAA n (zAy n cs k)).length:Int)>0) (fun k1=>(zAb<|zAm 1<|S_i k<|S_g 1<|zAb<|zAm 2<|S_a [(7,.ret (hdV (zCf n (zAy n cs k))) [])] (ap (f101 n cs (zAy n cs k) (by omega) (by omega)) an)<|S_g 1<|zAb<|S_i k<|S_g 1 ?_)) (fun k1=>(zAh<|zAb<|zAm 2<|S_a [(7,.ret (hdV (zCf n (zAy n cs k))) [])] (ap (f101 n cs (zAy n cs k) (by omega) (by omega)) an)<|S_g 1<|zAb<|S_i k<|S_g 1 ?_))
  ·rw[if_neg (by intro h;rw[h] at k1;simp at k1)] at yx;exact⟨k+1,by omega,by omega,by rw[yx];kernel_rfl,by kernel_rfl⟩
  ·rw[if_pos (bq (by omega))] at yx;exact⟨k+1,by omega,by omega,by rw[yx];kernel_rfl,by kernel_rfl⟩
 ·have e:k=12:=by omega
  subst e;refine zAj 1<|zAc<|zAB<|zAD 0<|zAc<|zAl 2<|S_a [(7,.ret (own 2 (map prV (zAA n (zAy n cs 12)))) [])] (ap (f91 n cs (zAy n cs 12) (by omega) (by omega)) an)<|S_a [(0,.n ((zAA n (zAy n cs 12)).length))] (ap (lnS prV (zAA n (zAy n cs 12))) an)<|S_g 1<|zCN ((↑(zAA n (zAy n cs 12)).length:Int)>0) (fun k0=>(zAj 2<|zAn<|E_a [] an (tup [I 0,I 6]) [] ?_ rfl)) (fun k0=>(zAh<|zAj 3<|zAn<|E_a [] an (tup [I (zXe n cs 12),I 0]) [] ?_ rfl))
  ·have h:¬ zAA n (zAy n cs 12)=[]:=by intro h;rw[h] at k0;simp at k0
   rw[if_neg h,if_neg h]
  ·have h:zAA n (zAy n cs 12)=[]:=bq (by omega);rw[if_pos h,if_pos h]
end Go.Eng
