/- Just those ye are left with an earlier notice alone that are told; who jN a notice has it by a path; and with the further cries that are told nobody is left, or gaps are told that no cry mends; for every list of numbers, evening and stands. -/
import Derived.Test.YtppbomajegnkeaaGreatPe
import Derived.Test.YtppbomajegnkeaaGreatPd
set_option linter.unusedVariables false
set_option linter.unusedSimpArgs false
set_option linter.unusedSectionVars false
set_option maxRecDepth 10000
set_option maxHeartbeats 4000000
open Nat (beq ble blt)
open List (map replicate take drop range length filter)
open Go.Eng.PV (own agg addr func sl bor tup omap bad bool int)
namespace Go.Eng
open Go Go.Proofs
def zKG(h:Int)(x:Int×Int):Bool:=inB x.1 0 (h-1)&&inB x.2 0 (h-1)
def zKS(x:Int×Int):Bool:=decide (x.1≠x.2)
def zCW(h:Int)(l:LP):Int:=if (l.all fun x=>zKG h x)=true then if (l.all fun x=>zKS x)=true then if (l.map pr2).Nodup then 0 else 5 else 8 else 1
def zRr(l:List (Int×Bool)):Bool:=(range l.length).all fun i=>inB (l.getD i d0).1 (-1) ((i:Int)-1)
def zNE(l:List (Int×Bool))(i:Nat):Bool:=decide ((l.getD i d0).1≠-1)&&(l.take i).any fun y=>decide (y.1=(l.getD i d0).1)
def zD7(l:List (Int×Bool)):Int:=if zRr l=true then if (range l.length).any (zNE l)=true then 5 else 0 else 1
def zEv(l:LI):Bool:=zF6 l&&decide ((zHn l).length=l.length)
def zLN(h:Int)(l:LI):Bool:=l.all fun x=>inB x 0 (h-1)
def zFK(n:Nw):Int :=
 if (!inB n.h 1 10)=true then 2 else if (n.l.length:Int)>15 then 2 else if (!inB n.n.length 1 8)=true then 2 else if (!inB n.s.length 1 6)=true then 2
 else if zCW n.h n.l=0 then
  if zD7 n.n=0 then
   if (!n.s.all fun x=>zLN n.h x)=true then 1 else if (!n.s.all fun x=>zEv x)=true then 4 else 0
  else zD7 n.n
 else zCW n.h n.l
theorem zYi{n lo hi:Int}(h:(!inB n lo hi)=false):lo<=n/\n<=hi:=by simpa[inB] using h
abbrev zDD(x:Int×Int):PV×PV:=(prV x,.bool true)
theorem zP0{M:LP}(x:Int×Int):zCV Tryz.prog 87 (prV x) (M.map zDD) 0=some (M.findIdx? fun y=>decide (x=y)):=by
 rw[zJL (kx:=Prod.fst) (ky:=Prod.snd) (fun _=>rfl) (zTF) x.1 x.2 M 0];simp[zTy]
theorem zOw{M:LP}{x:Int×Int}(h:x∈M):∃ j,j<M.length/\zCV Tryz.prog 87 (prV x) (M.map zDD) 0=some (some j):=by
 rw[zP0]
 cases hf:M.findIdx? fun y=>decide (x=y) with
 |none=>
  rw[dW] at hf;have:=hf x h;simp at this
 |some j=>exact⟨j,(dX.1 hf).1,rfl⟩
theorem zIV{M:LP}{x:Int×Int}(h:x∉M):zCV Tryz.prog 87 (prV x) (M.map zDD) 0=some none:=by
 rw[zP0,dW.2];intro y hy;simp only[decide_eq_false_iff_not];intro e;subst e;exact h hy
structure Small (n:Nw):Prop where
 hl:n.l.length<1000000
 hn:n.n.length<1000000
 hs:n.s.length<1000000
 hr:∀ x∈n.s,x.length<1000000
section
variable [Yo]
theorem f196(n:Nw)(x:Int×Int)(hb:1<=n.h/\n.h<=10):FG 196 [prV x,.ref (nwV n)] (.bool (zKG n.h x)):=by
 refine zAe Tryz.f196 ?_;refine zAj 2<|zAn 1<|zAp 1<|zAp 1<|S_a [(8,.ret (bool (inB x.fst 0 (n.h-1))) [])] (ap (f109 n x.fst (by omega)) an)<|zAp 1<|zFD 8 (inB x.fst 0 (n.h-1)) (fun k0=>(zAp 1<|zAp 1<|zAp 1<|S_a [(8,.ret (bool (inB x.snd 0 (n.h-1))) [])] (ap (f109 n x.snd (by omega)) an)<|S_g 2<|zAm<|E_a [] an (bool (inB x.snd 0 (n.h-1))) [] ?_ rfl)) (fun k0=>(S_g 6<|zAm<|E_a [] an (bool false) [] ?_ rfl))
 ·simp only[zKG,k0,cR]
 ·simp only[zKG,k0,cX]
theorem f197(x:Int×Int):FG 197 [prV x] (.bool (zKS x)):=by
 refine zAe Tryz.f197 ?_;refine zAj 2<|zAn 1<|zAp 1<|zAp 1<|S_g 3<|zAm<|E_a [] an (bool (x.fst != x.snd)) [] ?_ rfl
 congr 1;rw[cZ];simp[zKS]
theorem f199(x y:Int×Bool):FG 199 [ntV y,.ref (ntV x)] (.bool (decide (y.1=x.1))):=by
 refine zAe Tryz.f199 ?_;refine zAj 2<|zAj 6<|zAm E_0
theorem f168_1(n:Nw)(hb:1<=n.h/\n.h<=10)(x:Int):FG 168 [I x,.ref (.func 109 [nwV n] [])] (.bool (!(inB x 0 (n.h-1)))):=by
 refine zAe Tryz.f168 ?_;refine zAj 1<|zAn 2<|S_a [(8,.ret (bool (inB x 0 (n.h-1))) [])] (ap (f109 n x (by omega)) an)<|S_g 2<|zAm E_0
theorem f131_1(n:Nw)(hb:1<=n.h/\n.h<=10)(l:List (Int))(hl:l.length<4294967296):FG 131 [.sl (l.map I),.func 168 [] [.ref (.func 109 [nwV n] [])]] (I (zDI (fun x=>!(inB x 0 (n.h-1))) l)):=by
 refine zAe Tryz.f131 ?_;refine zAj 1<|zAc<|zAn 1<|S_a [(0,.n l.length)] (ap (lnS I l) an)<|S_g 1<|zAg 0 ?_
 refine zAu (fun i=>i<=l.length/\∀ j,j<i->(fun x=>!(inB x 0 (n.h-1))) (l.getD j 0)=false) (fun i=>[(8,I (i:Nat))]) (fun i=>l.length-i) (0:Nat) (by simp) fun i ⟨hi,ha⟩=>?_;refine zAj 1<|zAc<|zC4 ((i:Int)<(l.length:Int)) (fun k0=>(zAh<|zAc<|zAg 1<|zAj 2<|zAn 3<|S_a [(2,.v (I (l.getD i 0)))] (ap (zBN (0) (by omega):(map I l)[i]? = some (I (l.getD i 0))) an)<|zAp 1<|S_a [(7,.ret (bool !inB (l.getD i 0) 0 (n.h-1)) [])] (ap (f168_1 n (by omega) (l.getD i 0)) an)<|zA6<|zEE (!inB (l.getD i 0) 0 (n.h-1)) (fun k1=>(zAj 2<|zAm<|E_a [] an (I (i:Int)) [] ?_ rfl)) (fun k1=>(zAh<|zAb<|S_i i<|S_g 1 ?_)))) (fun k0=>(zAG 0<|zAj 1<|zAm<|E_a [] an (I (-1)) [] ?_ rfl))
 ·rw[zBK (i:=i) (by omega) (fun j hj=>by rw[<- zAr (d:=0)];exact ha j hj) (by rw[<- zAr (d:=0)];first|assumption|exact decide_eq_true ‹_›|(simp only[bD,decide_eq_false_iff_not];assumption))]
 ·refine⟨i+1,⟨by omega,fun j hj=>?_⟩,by omega,by kernel_rfl,by kernel_rfl⟩;rcases bE.1 hj with h|rfl
  ·exact ha j h
  ·first|assumption|exact decide_eq_false ‹_›|(simp only[bB,decide_eq_true_eq];first|assumption|(apply cJ;assumption))
 ·rw[zBV fun j hj=>by rw[<- zAr (d:=0)];exact ha j (by omega)]
theorem f52_1(n:Nw)(hb:1<=n.h/\n.h<=10)(l:List (Int))(hl:l.length<4294967296):FG 52 [.sl (l.map I),.func 168 [] [.ref (.func 109 [nwV n] [])]] (.bool (l.any (fun x=>!(inB x 0 (n.h-1))))):=by
 refine zAe Tryz.f52 ?_;refine zAj 1<|zAn 2<|S_a [(7,.ret (I (zDI (fun x=>!inB x 0 (n.h-1)) l)) [])] (ap (f131_1 n (by omega) l (by omega)) an)<|S_g 2<|zAm<|E_a [] an (bool (decide (zDI (fun x=>!inB x 0 (n.h-1)) l>=0))) [] ?_ rfl
 rw[zDA]
theorem f108_1(n:Nw)(hb:1<=n.h/\n.h<=10)(l:List (Int))(hl:l.length<4294967296):FG 108 [.sl (l.map I),.func 109 [nwV n] []] (.bool (l.all (fun x=>inB x 0 (n.h-1)))):=by
 refine zAe Tryz.f108 ?_;refine zAj 2<|zAn 2<|S_a [(12,.ret (bool (l.any fun x=>!inB x 0 (n.h-1))) [])] (ap (f52_1 n (by omega) l (by omega)) an)<|S_g 2<|zAm<|E_a [] an (bool !l.any fun x=>!inB x 0 (n.h-1)) [] ?_ rfl
 simp[dc]
theorem f221_1(n:Nw)(hb:1<=n.h/\n.h<=10)(x:Int×Int):FG 221 [prV x,.ref (.func 196 [] [.ref (nwV n)])] (.bool (!(zKG n.h x))):=by
 refine zAe Tryz.f221 ?_;refine zAj 2<|zAn 2<|S_a [(7,.ret (bool (zKG n.h x)) [])] (ap (f196 n x (by omega)) an)<|S_g 2<|zAm E_0
theorem f202_1(n:Nw)(hb:1<=n.h/\n.h<=10)(l:LP)(hl:l.length<4294967296):FG 202 [.sl (l.map prV),.func 221 [] [.ref (.func 196 [] [.ref (nwV n)])]] (I (zDI (fun x=>!(zKG n.h x)) l)):=by
 refine zAe Tryz.f202 ?_;refine zAj 1<|zAc<|zAn 1<|S_a [(0,.n l.length)] (ap (lnS prV l) an)<|S_g 1<|zAg 0 ?_
 refine zAu (fun i=>i<=l.length/\∀ j,j<i->(fun x=>!(zKG n.h x)) (l.getD j d0)=false) (fun i=>[(8,I (i:Nat))]) (fun i=>l.length-i) (0:Nat) (by simp) fun i ⟨hi,ha⟩=>?_;refine zAj 1<|zAc<|zC4 ((i:Int)<(l.length:Int)) (fun k0=>(zAh<|zAc<|zAg 1<|zAj 2<|zAn 3<|S_a [(2,.v (prV (l.getD i d0)))] (ap (zBN d0 (by omega):(map prV l)[i]? = some (prV (l.getD i d0))) an)<|zAp 1<|S_a [(7,.ret (bool !zKG n.h (l.getD i d0)) [])] (ap (f221_1 n (by omega) (l.getD i d0)) an)<|zA6<|zEE (!zKG n.h (l.getD i d0)) (fun k1=>(zAj 2<|zAm<|E_a [] an (I (i:Int)) [] ?_ rfl)) (fun k1=>(zAh<|zAb<|S_i i<|S_g 1 ?_)))) (fun k0=>(zAG 0<|zAj 1<|zAm<|E_a [] an (I (-1)) [] ?_ rfl))
 ·rw[zBK (i:=i) (by omega) (fun j hj=>by rw[<- zAr (d:=d0)];exact ha j hj) (by rw[<- zAr (d:=d0)];first|assumption|exact decide_eq_true ‹_›|(simp only[bD,decide_eq_false_iff_not];assumption))]
 ·refine⟨i+1,⟨by omega,fun j hj=>?_⟩,by omega,by kernel_rfl,by kernel_rfl⟩;rcases bE.1 hj with h|rfl
  ·exact ha j h
  ·first|assumption|exact decide_eq_false ‹_›|(simp only[bB,decide_eq_true_eq];first|assumption|(apply cJ;assumption))
 ·rw[zBV fun j hj=>by rw[<- zAr (d:=d0)];exact ha j (by omega)]
theorem f156_1(n:Nw)(hb:1<=n.h/\n.h<=10)(l:LP)(hl:l.length<4294967296):FG 156 [.sl (l.map prV),.func 221 [] [.ref (.func 196 [] [.ref (nwV n)])]] (.bool (l.any (fun x=>!(zKG n.h x)))):=by
 refine zAe Tryz.f156 ?_;refine zAj 1<|zAn 2<|S_a [(7,.ret (I (zDI (fun x=>!zKG n.h x) l)) [])] (ap (f202_1 n (by omega) l (by omega)) an)<|S_g 2<|zAm<|E_a [] an (bool (decide (zDI (fun x=>!zKG n.h x) l>=0))) [] ?_ rfl
 rw[zDA]
theorem f195_1(n:Nw)(hb:1<=n.h/\n.h<=10)(l:LP)(hl:l.length<4294967296):FG 195 [.sl (l.map prV),.func 196 [] [.ref (nwV n)]] (.bool (l.all (fun x=>zKG n.h x))):=by
 refine zAe Tryz.f195 ?_;refine zAj 2<|zAn 2<|S_a [(12,.ret (bool (l.any fun x=>!zKG n.h x)) [])] (ap (f156_1 n (by omega) l (by omega)) an)<|S_g 2<|zAm<|E_a [] an (bool !l.any fun x=>!zKG n.h x) [] ?_ rfl
 simp[dc]
theorem f221_2(x:Int×Int):FG 221 [prV x,.ref (.func 197 [] [])] (.bool (!(zKS x))):=by
 refine zAe Tryz.f221 ?_;refine zAj 2<|zAn 2<|S_a [(6,.ret (bool (zKS x)) [])] (ap (f197 x) an)<|S_g 2<|zAm E_0
theorem f202_2(l:LP)(hl:l.length<4294967296):FG 202 [.sl (l.map prV),.func 221 [] [.ref (.func 197 [] [])]] (I (zDI (fun x=>!(zKS x)) l)):=by
 refine zAe Tryz.f202 ?_;refine zAj 1<|zAc<|zAn 1<|S_a [(0,.n l.length)] (ap (lnS prV l) an)<|S_g 1<|zAg 0 ?_
 refine zAu (fun i=>i<=l.length/\∀ j,j<i->(fun x=>!(zKS x)) (l.getD j d0)=false) (fun i=>[(8,I (i:Nat))]) (fun i=>l.length-i) (0:Nat) (by simp) fun i ⟨hi,ha⟩=>?_;refine zAj 1<|zAc<|zC4 ((i:Int)<(l.length:Int)) (fun k0=>(zAh<|zAc<|zAg 1<|zAj 2<|zAn 3<|S_a [(2,.v (prV (l.getD i d0)))] (ap (zBN d0 (by omega):(map prV l)[i]? = some (prV (l.getD i d0))) an)<|zAp 1<|S_a [(7,.ret (bool !zKS (l.getD i d0)) [])] (ap (f221_2 (l.getD i d0)) an)<|zA6<|zEE (!zKS (l.getD i d0)) (fun k1=>(zAj 2<|zAm<|E_a [] an (I (i:Int)) [] ?_ rfl)) (fun k1=>(zAh<|zAb<|S_i i<|S_g 1 ?_)))) (fun k0=>(zAG 0<|zAj 1<|zAm<|E_a [] an (I (-1)) [] ?_ rfl))
 ·rw[zBK (i:=i) (by omega) (fun j hj=>by rw[<- zAr (d:=d0)];exact ha j hj) (by rw[<- zAr (d:=d0)];first|assumption|exact decide_eq_true ‹_›|(simp only[bD,decide_eq_false_iff_not];assumption))]
 ·refine⟨i+1,⟨by omega,fun j hj=>?_⟩,by omega,by kernel_rfl,by kernel_rfl⟩;rcases bE.1 hj with h|rfl
  ·exact ha j h
  ·first|assumption|exact decide_eq_false ‹_›|(simp only[bB,decide_eq_true_eq];first|assumption|(apply cJ;assumption))
 ·rw[zBV fun j hj=>by rw[<- zAr (d:=d0)];exact ha j (by omega)]
theorem f156_2(l:LP)(hl:l.length<4294967296):FG 156 [.sl (l.map prV),.func 221 [] [.ref (.func 197 [] [])]] (.bool (l.any (fun x=>!(zKS x)))):=by
 refine zAe Tryz.f156 ?_;refine zAj 1<|zAn 2<|S_a [(7,.ret (I (zDI (fun x=>!zKS x) l)) [])] (ap (f202_2 l (by omega)) an)<|S_g 2<|zAm<|E_a [] an (bool (decide (zDI (fun x=>!zKS x) l>=0))) [] ?_ rfl
 rw[zDA]
theorem f195_2(l:LP)(hl:l.length<4294967296):FG 195 [.sl (l.map prV),.func 197 [] []] (.bool (l.all (fun x=>zKS x))):=by
 refine zAe Tryz.f195 ?_;refine zAj 2<|zAn 2<|S_a [(12,.ret (bool (l.any fun x=>!zKS x)) [])] (ap (f156_2 l (by omega)) an)<|S_g 2<|zAm<|E_a [] an (bool !l.any fun x=>!zKS x) [] ?_ rfl
 simp[dc]
theorem f222_1(y:Int)(yb:Bool)(l:List (Int×Bool))(hl:l.length<4294967296):FG 222 [.sl (l.map ntV),.func 199 [] [.ref (.agg [I y,.bool yb])]] (I (zDI (fun x=>decide (x.1=y)) l)):=by
 refine zAe Tryz.f222 ?_;refine zAj 1<|zAc<|zAn 1<|S_a [(0,.n l.length)] (ap (lnS ntV l) an)<|S_g 1<|zAg 0 ?_
 refine zAu (fun i=>i<=l.length/\∀ j,j<i->(fun x=>decide (x.1=y)) (l.getD j d0)=false) (fun i=>[(8,I (i:Nat))]) (fun i=>l.length-i) (0:Nat) (by simp) fun i ⟨hi,ha⟩=>?_;refine zAj 1<|zAc<|zC4 ((i:Int)<(l.length:Int)) (fun k0=>(zAh<|zAc<|zAg 1<|zAj 2<|zAn 3<|S_a [(2,.v (agg [I (l.getD i d0).fst,bool (l.getD i d0).snd]))] (ap (zBN d0 (by omega):(map ntV l)[i]? = some (agg [I (l.getD i d0).fst,bool (l.getD i d0).snd])) an)<|zAp 1<|S_a [(7,.ret (bool (decide ((l.getD i d0).fst=(y,yb).fst))) [])] (ap (f199 ((y,yb)) (l.getD i d0)) an)<|zA6<|zC4 ((l.getD i d0).fst=(y,yb).fst) (fun k1=>(zAj 2<|zAm<|E_a [] an (I (i:Int)) [] ?_ rfl)) (fun k1=>(zAh<|zAb<|S_i i<|S_g 1 ?_)))) (fun k0=>(zAG 0<|zAj 1<|zAm<|E_a [] an (I (-1)) [] ?_ rfl))
 ·rw[zBK (i:=i) (by omega) (fun j hj=>by rw[<- zAr (d:=d0)];exact ha j hj) (by rw[<- zAr (d:=d0)];first|assumption|exact decide_eq_true ‹_›|(simp only[bD,decide_eq_false_iff_not];assumption))]
 ·refine⟨i+1,⟨by omega,fun j hj=>?_⟩,by omega,by kernel_rfl,by kernel_rfl⟩;rcases bE.1 hj with h|rfl
  ·exact ha j h
  ·first|assumption|exact decide_eq_false ‹_›|(simp only[bB,decide_eq_true_eq];first|assumption|(apply cJ;assumption))
 ·rw[zBV fun j hj=>by rw[<- zAr (d:=d0)];exact ha j (by omega)]
theorem f198_1(y:Int)(yb:Bool)(l:List (Int×Bool))(hl:l.length<4294967296):FG 198 [.sl (l.map ntV),.func 199 [] [.ref (.agg [I y,.bool yb])]] (.bool (l.any (fun x=>decide (x.1=y)))):=by
 refine zAe Tryz.f198 ?_;refine zAj 1<|zAn 2<|S_a [(7,.ret (I (zDI (fun x=>decide (x.fst=y)) l)) [])] (ap (f222_1 y yb l (by omega)) an)<|S_g 2<|zAm<|E_a [] an (bool (decide (zDI (fun x=>decide (x.fst=y)) l>=0))) [] ?_ rfl
 rw[zDA]
theorem f150(n:Nw)(hb:1<=n.h/\n.h<=10)(hl:n.l.length<=15):FG 150 [nwV n] (I (zCW n.h n.l)):=by
 refine zAe Tryz.f150 ?_;refine zAj 2<|zAc<|zAg 0<|zAn 3<|S_a [(13,.ret (bool (n.l.all fun x=>zKG n.h x)) [])] (ap (f195_1 n (by omega) n.l (by omega)) an)<|S_g 2<|zEE (!n.l.all fun x=>zKG n.h x) (fun k0=>(zAj 1<|zAm<|E_a [] an (I 1) [] ?_ rfl)) (fun k0=>(zAn 2<|S_a [(7,.ret (bool (n.l.all fun x=>zKS x)) [])] (ap (f195_2 n.l (by omega)) an)<|S_g 2<|zEE (!n.l.all fun x=>zKS x) (fun k1=>(zAj 1<|zAm<|E_a [] an (I 8) [] ?_ rfl)) (fun k1=>(zAh<|zAj 2<|zAc<|zAn 2<|S_a [(0,.n n.l.length)] (ap (lnS prV n.l) an)<|S_g 1<|zAg 1 ?_))))
 ·rw[bD] at k0;simp[zCW,k0]
 ·rw[bB] at k0;rw[bD] at k1;simp[zCW,k0,k1]
 ·refine zAu (fun(i,M)=>i<=n.l.length/\M=(n.l.take i).map pr2/\M.Nodup) (fun(i,M)=>[(3,.omap (M.map zDD)),(21,I (i:Nat))]) (fun(i,_)=>n.l.length-i) ((0:Nat),([]:LP)) ⟨bR _,rfl,b4⟩ fun(i,M) ⟨hi,hM,hN⟩=>?_;by_cases yH:i<n.l.length
  ·have yK:(n.l.take (i+1)).map pr2=M++[pr2 (n.l.getD i d0)]:=by rw[zBI (d:=d0) yH,cB,<- hM];rfl
   by_cases hin:pr2 (n.l.getD i d0)∈M
   ·obtain⟨j,hj,yQ⟩:=zOw hin;have jQ:zEN (M.map zDD) j=some (.bool true):=by simp[zEN,hj]
    refine zAj 1<|zAc<|zAL ((i:Int)<(n.l.length:Int)) (by omega)<|zAh<|zAc<|zAg 2<|zAc<|zAb<|S_a [(2,.v (prV (n.l.getD i d0)))] (ap (zBN d0 (by omega):(map prV n.l)[i]? = some (prV (n.l.getD i d0))) an)<|S_g 3<|zAc<|zAn 2<|S_a [(6,.ret (prV (pr2 (n.l.getD i d0))) [])] (ap (f110 (n.l.getD i d0)) an)<|S_a [(3,.ix (some j)),(0,.v (bool true))] (ap yQ<|ap (jQ:zEN (map zDD M) j=some (bool true)) an)<|zA6<|zB9<|zAj 1<|zAm<|E_a [] an (I 5) [] ?_ rfl
    rw[bB] at k0 k1;have yV:¬ (n.l.map pr2).Nodup:=fun h=>by
     rw[<- cm (i+1) n.l,cB,yK] at h;have h2:=(bI.1 h).1;have h3:=(bI.1 h2).2.2;exact h3 _ hin _ (bl.2 rfl) rfl
    simp only[zCW,k0,k1,yV,if_true,if_false]
   ·have yQ:=zIV hin;refine zAj 1<|zAc<|zAL ((i:Int)<(n.l.length:Int)) (by omega)<|zAh<|zAc<|zAg 2<|zAc<|zAb<|S_a [(2,.v (prV (n.l.getD i d0)))] (ap (zBN d0 (by omega):(map prV n.l)[i]? = some (prV (n.l.getD i d0))) an)<|S_g 3<|zAc<|zAn 2<|S_a [(6,.ret (prV (pr2 (n.l.getD i d0))) [])] (ap (f110 (n.l.getD i d0)) an)<|S_a [(3,.ix none)] (ap yQ an)<|zA6<|zAB<|zAh<|zAb<|zAp 2<|S_a [(6,.ret (prV (pr2 (n.l.getD i d0))) [])] (ap (f110 (n.l.getD i d0)) an)<|S_a [(4,.ix none),(0,.v (omap (map zDD (M++[pr2 (n.l.getD i d0)]))))] (ap yQ<|ap ((by simp):omap (map zDD M++[(prV (pr2 (n.l.getD i d0)),bool true)])=omap (map zDD (M++[pr2 (n.l.getD i d0)]))) an)<|zA6<|zAb<|S_i i<|S_g 1 ?_
    refine⟨(i+1,M++[pr2 (n.l.getD i d0)]),⟨by omega,yK.symm,?_⟩,by simp only;omega,by kernel_rfl,by kernel_rfl⟩;rw[bI];refine⟨hN,by simp,fun a ha b hb=>?_⟩;rw[bl] at hb;subst hb;intro e;subst e;exact hin ha
  ·refine zAj 1<|zAc<|zAS ((i:Int)<(n.l.length:Int)) (by omega)<|zAG 1<|zAj 1<|zAm<|E_a [] an (I 0) [] ?_ rfl
   rw[bB] at k0 k1;rw[bz (by omega)] at hM;rw[hM] at hN;simp only[zCW,k0,k1,hN,if_true]
theorem f151(n:Nw)(hl:n.n.length<=8):FG 151 [nwV n] (I (zD7 n.n)):=by
 refine zAe Tryz.f151 ?_;refine zAj 2<|zAc<|zAn 2<|S_a [(0,.n n.n.length)] (ap (lnS ntV n.n) an)<|S_g 1<|zAg 0 ?_
 refine zAu (fun i=>i<=n.n.length/\∀ j,j<i->inB (n.n.getD j d0).1 (-1) ((j:Int)-1)=true) (fun i=>[(10,I (i:Nat))]) (fun i=>n.n.length-i) (0:Nat) ⟨bR _,fun j h=>absurd h (b8 _)⟩ fun i ⟨hi,ha⟩=>?_;refine zAj 1<|zAc<|zC4 ((i:Int)<(n.n.length:Int)) (fun k0=>(zAh<|zAc<|zAg 1<|zAn 1<|S_a [(2,.v (agg [I (n.n.getD i d0).fst,bool (n.n.getD i d0).snd]))] (ap (zBN d0 (by omega):(map ntV n.n)[i]? = some (agg [I (n.n.getD i d0).fst,bool (n.n.getD i d0).snd])) an)<|S_g 4<|zAn 3<|S_a [(1,.v (I ((i:Int)-1)))] (ap ((zCj rfl (by omega)):I (IntKind.i64.wrap ((i:Int)-1))=I ((i:Int)-1)) an)<|S_a [(10,.ret (bool (inB (n.n.getD i d0).fst (-1) ((i:Int)-1))) [])] (ap (f107 ((n.n.getD i d0).fst) (-1) ((i:Int)-1)) an)<|S_g 1<|zEE (!inB (n.n.getD i d0).fst (-1) ((i:Int)-1)) (fun k1=>(zAj 1<|zAm<|E_a [] an (I 1) [] ?_ rfl)) (fun k1=>(zAh<|zAb<|S_i i<|S_g 1 ?_)))) (fun k0=>(zAG 0<|zAc<|zAn 2<|S_a [(0,.n n.n.length)] (ap (lnS ntV n.n) an)<|S_g 1<|zAg 2 ?_))
 ·rw[bD] at k1;have:zRr n.n=false:=by
   simp only[zRr,fH];exact⟨i,bC.2 (by omega),by simpa using k1⟩
  simp[zD7,this]
 ·rw[bB] at k1;refine⟨i+1,⟨by omega,fun j hj=>?_⟩,by omega,by kernel_rfl,by kernel_rfl⟩;rcases bE.1 hj with h|rfl
  ·exact ha j h
  ·exact k1
 ·have hin:zRr n.n=true:=by
   simp only[zRr,bj,bC];exact fun j hj=>ha j (by omega)
  clear ha;refine zAu (fun i=>i<=n.n.length/\∀ j,j<i->zNE n.n j=false) (fun i=>[(25,I (i:Nat))]) (fun i=>n.n.length-i) (0:Nat) ⟨bR _,fun j h=>absurd h (b8 _)⟩ fun k ⟨hk,hb⟩=>?_;have yK:zNE n.n k=false->∀ j,j<k+1->zNE n.n j=false:=fun h j hj=>by
   rcases bE.1 hj with h2|rfl
   ·exact hb j h2
   ·exact h
  refine zAj 1<|zAc<|zC4 ((k:Int)<(n.n.length:Int)) (fun k2=>(zAh<|zAc<|zAg 3<|zAn 1<|S_a [(2,.v (agg [I (n.n.getD k d0).fst,bool (n.n.getD k d0).snd]))] (ap (zBN d0 (by omega):(map ntV n.n)[k]? = some (agg [I (n.n.getD k d0).fst,bool (n.n.getD k d0).snd])) an)<|S_g 4<|zAn 4<|zMD 33 ((n.n.getD k d0).fst = -1) (fun k3=>(zAp 3<|S_a [(3,.ob),(0,.ob),(0,.v (sl (map ntV (take k n.n))))] (ap ((by exact zAP (by simp only[be,zzLn,zAJ]<;>omega)):k.ble (map ntV n.n).length=true)<|ap ((by exact all_map _):((map ntV n.n).all fun x=>x.cells.length.beq ((fun x=>x.size) Tryz.prog.types[99]))=true)<|ap ((by simp):sl (take k (drop 0 (map ntV n.n)))=sl (map ntV (take k n.n))) an)<|zAp 1<|S_a [(13,.ret (bool ((take k n.n).any fun x=>decide (x.fst=(n.n.getD k d0).fst))) [])] (ap (f198_1 ((n.n.getD k d0).fst) ((n.n.getD k d0).snd) (take k n.n) (by first|omega|(simp<;>omega))) an)<|S_g 1<|zEE ((take k n.n).any fun x=>decide (x.fst=(n.n.getD k d0).fst)) (fun k4=>(zAj 1<|zAm<|E_a [] an (I 5) [] ?_ rfl)) (fun k4=>(zAh<|zAb<|S_i k<|S_g 1 ?_)))) (fun k3=>(S_g 7<|zAB<|zAh<|zAb<|S_i k<|S_g 1 ?_)))) (fun k2=>(zAG 2<|zAj 1<|zAm<|E_a [] an (I 0) [] ?_ rfl))
  ·have h1:zNE n.n k=true:=by
    have k4:((n.n.take k).any fun y=>decide (y.1=(n.n.getD k d0).1))=true:=k4;simp only[zNE,k4,ig,decide_eq_true_eq];assumption
   have:(range n.n.length).any (zNE n.n)=true:=bN.2 ⟨k,bC.2 (by omega),h1⟩;simp only[zD7,hin,this,if_true]
  ·have h1:zNE n.n k=false:=by
    have k4:((n.n.take k).any fun y=>decide (y.1=(n.n.getD k d0).1))=false:=k4;simp only[zNE,k4,dO]
   exact rnd (k+1) ⟨by omega,yK h1⟩ (by omega)
  ·have h1:zNE n.n k=false:=by
    simp only[zNE,fP,decide_eq_false_iff_not];exact .inl (by simpa using k3)
   exact rnd (k+1) ⟨by omega,yK h1⟩ (by omega)
  ·have:(range n.n.length).any (zNE n.n)=false:=by
    simp only[cV,bC,cu];exact fun j hj=>hb j (by omega)
   simp only[zD7,hin,this,if_true];rfl
theorem f153(n:Nw)(l:LI)(hb:1<=n.h/\n.h<=10)(hl:l.length<1000000):FG 153 [zBi l,.ref (nwV n)] (.bool (zLN n.h l)):=by
 refine zAe Tryz.f153 ?_;refine zAj 1<|zAn 3<|S_a [(7,.ret (bool (l.all fun x=>inB x 0 (n.h-1))) [])] (ap (f108_1 n (by omega) l (by omega)) an)<|S_g 1<|zAm E_0
theorem f154(l:LI)(hl:l.length<1000000):FG 154 [zBi l] (.bool (zEv l)):=by
 refine zAe Tryz.f154 ?_;refine zAj 1<|zAn 1<|S_a [(6,.ret (bool (zF6 l)) [])] (ap (f155 l (by omega)) an)<|zAp 1<|zFD 5 (zF6 l) (fun k0=>(zAp 1<|S_a [(6,.ret (own 1 (map I l)) [])] (ap (f65 l (by omega)) an)<|S_a [(3,.ob),(1,.v (own 1 (map I l))),(2,.ret (own 1 (map I (zHn l))) [])] (ap ((by exact zAP (by simp only[be,zzLn,zAJ]<;>omega)):(map I l).length.ble (map I l).length=true)<|ap ((zAQ zAW):own 1 (take (map I l).length (drop 0 (map I l)))=own 1 (map I l))<|ap (f97 l (by omega)) an)<|S_a [(0,.n ((zHn l).length))] (ap (lnS I (zHn l)) an)<|zAp 1<|S_a [(0,.n l.length)] (ap (lnS I l) an)<|S_g 3<|zAm<|E_a [] an (bool ((↑(zHn l).length:Int)==(l.length:Int))) [] ?_ rfl)) (fun k0=>(S_g 9<|zAm<|E_a [] an (bool false) [] ?_ rfl))
 ·simp only[zEv,k0,cR];congr 1;rw[cZ];simp;omega
 ·simp only[zEv,k0,cX]
theorem f201_1(n:Nw)(hb:1<=n.h/\n.h<=10)(x:LI)(hx:x.length<1000000):FG 201 [zBi x,.ref (.func 153 [] [.ref (nwV n)])] (.bool (!(zLN n.h x))):=by
 refine zAe Tryz.f201 ?_;refine zAj 1<|zAn 2<|S_a [(7,.ret (bool (zLN n.h x)) [])] (ap (f153 n x (by omega) (by omega)) an)<|S_g 2<|zAm E_0
theorem f223_1(n:Nw)(hb:1<=n.h/\n.h<=10)(l:List LI)(hl:l.length<4294967296)(hr:∀ x∈l,x.length<1000000):FG 223 [.sl (l.map zBi),.func 201 [] [.ref (.func 153 [] [.ref (nwV n)])]] (I (zDI (fun x=>!(zLN n.h x)) l)):=by
 refine zAe Tryz.f223 ?_;refine zAj 1<|zAc<|zAn 1<|S_a [(0,.n l.length)] (ap (lnS zBi l) an)<|S_g 1<|zAg 0 ?_
 refine zAu (fun i=>i<=l.length/\∀ j,j<i->(fun x=>!(zLN n.h x)) (l.getD j [])=false) (fun i=>[(8,I (i:Nat))]) (fun i=>l.length-i) (0:Nat) (by simp) fun i ⟨hi,ha⟩=>?_;by_cases yH:i<l.length
 ·have ud:=zBP (d:=[]) hr i yH;refine zAj 1<|zAc<|zAL ((i:Int)<(l.length:Int)) (by omega)<|zAh<|zAc<|zAg 1<|zAj 2<|zAn 3<|S_a [(2,.v (zBi (l.getD i [])))] (ap (zBN [] (by omega):(map zBi l)[i]? = some (zBi (l.getD i []))) an)<|zAp 1<|S_a [(7,.ret (bool !zLN n.h (l.getD i [])) [])] (ap (f201_1 n (by omega) (l.getD i []) (by omega)) an)<|zA6<|zEE (!zLN n.h (l.getD i [])) (fun k0=>(zAj 2<|zAm<|E_a [] an (I (i:Int)) [] ?_ rfl)) (fun k0=>(zAh<|zAb<|S_i i<|S_g 1 ?_))
  ·rw[zBK (i:=i) yH (fun j hj=>by rw[<- zAr (d:=[])];exact ha j hj) (by rw[<- zAr (d:=[])];first|assumption|exact decide_eq_true ‹_›)]
  ·refine⟨i+1,⟨by omega,fun j hj=>?_⟩,by omega,by kernel_rfl,by kernel_rfl⟩;rcases bE.1 hj with h|rfl
   ·exact ha j h
   ·first|assumption|exact decide_eq_false ‹_›|(simp only[bB,decide_eq_true_eq];assumption)
 ·refine zAj 1<|zAc<|zAS ((i:Int)<(l.length:Int)) (by omega)<|zAG 0<|zAj 1<|zAm<|E_a [] an (I (-1)) [] ?_ rfl
  rw[zBV fun j hj=>by rw[<- zAr (d:=[])];exact ha j (by omega)]
theorem f200_1(n:Nw)(hb:1<=n.h/\n.h<=10)(l:List LI)(hl:l.length<4294967296)(hr:∀ x∈l,x.length<1000000):FG 200 [.sl (l.map zBi),.func 201 [] [.ref (.func 153 [] [.ref (nwV n)])]] (.bool (l.any (fun x=>!(zLN n.h x)))):=by
 refine zAe Tryz.f200 ?_;refine zAj 1<|zAn 2<|S_a [(7,.ret (I (zDI (fun x=>!zLN n.h x) l)) [])] (ap (f223_1 n (by omega) l (by omega) (by omega)) an)<|S_g 2<|zAm<|E_a [] an (bool (decide (zDI (fun x=>!zLN n.h x) l>=0))) [] ?_ rfl
 rw[zDA]
theorem f152_1(n:Nw)(hb:1<=n.h/\n.h<=10)(l:List LI)(hl:l.length<4294967296)(hr:∀ x∈l,x.length<1000000):FG 152 [.sl (l.map zBi),.func 153 [] [.ref (nwV n)]] (.bool (l.all (fun x=>zLN n.h x))):=by
 refine zAe Tryz.f152 ?_;refine zAj 2<|zAn 2<|S_a [(12,.ret (bool (l.any fun x=>!zLN n.h x)) [])] (ap (f200_1 n (by omega) l (by omega) (by omega)) an)<|S_g 2<|zAm<|E_a [] an (bool !l.any fun x=>!zLN n.h x) [] ?_ rfl
 simp[dc]
theorem f201_2(x:LI)(hx:x.length<1000000):FG 201 [zBi x,.ref (.func 154 [] [])] (.bool (!(zEv x))):=by
 refine zAe Tryz.f201 ?_;refine zAj 1<|zAn 2<|S_a [(6,.ret (bool (zEv x)) [])] (ap (f154 x (by omega)) an)<|S_g 2<|zAm E_0
theorem f223_2(l:List LI)(hl:l.length<4294967296)(hr:∀ x∈l,x.length<1000000):FG 223 [.sl (l.map zBi),.func 201 [] [.ref (.func 154 [] [])]] (I (zDI (fun x=>!(zEv x)) l)):=by
 refine zAe Tryz.f223 ?_;refine zAj 1<|zAc<|zAn 1<|S_a [(0,.n l.length)] (ap (lnS zBi l) an)<|S_g 1<|zAg 0 ?_
 refine zAu (fun i=>i<=l.length/\∀ j,j<i->(fun x=>!(zEv x)) (l.getD j [])=false) (fun i=>[(8,I (i:Nat))]) (fun i=>l.length-i) (0:Nat) (by simp) fun i ⟨hi,ha⟩=>?_;by_cases yH:i<l.length
 ·have ud:=zBP (d:=[]) hr i yH;refine zAj 1<|zAc<|zAL ((i:Int)<(l.length:Int)) (by omega)<|zAh<|zAc<|zAg 1<|zAj 2<|zAn 3<|S_a [(2,.v (zBi (l.getD i [])))] (ap (zBN [] (by omega):(map zBi l)[i]? = some (zBi (l.getD i []))) an)<|zAp 1<|S_a [(7,.ret (bool !zEv (l.getD i [])) [])] (ap (f201_2 (l.getD i []) (by omega)) an)<|zA6<|zEE (!zEv (l.getD i [])) (fun k0=>(zAj 2<|zAm<|E_a [] an (I (i:Int)) [] ?_ rfl)) (fun k0=>(zAh<|zAb<|S_i i<|S_g 1 ?_))
  ·rw[zBK (i:=i) yH (fun j hj=>by rw[<- zAr (d:=[])];exact ha j hj) (by rw[<- zAr (d:=[])];first|assumption|exact decide_eq_true ‹_›)]
  ·refine⟨i+1,⟨by omega,fun j hj=>?_⟩,by omega,by kernel_rfl,by kernel_rfl⟩;rcases bE.1 hj with h|rfl
   ·exact ha j h
   ·first|assumption|exact decide_eq_false ‹_›|(simp only[bB,decide_eq_true_eq];assumption)
 ·refine zAj 1<|zAc<|zAS ((i:Int)<(l.length:Int)) (by omega)<|zAG 0<|zAj 1<|zAm<|E_a [] an (I (-1)) [] ?_ rfl
  rw[zBV fun j hj=>by rw[<- zAr (d:=[])];exact ha j (by omega)]
theorem f200_2(l:List LI)(hl:l.length<4294967296)(hr:∀ x∈l,x.length<1000000):FG 200 [.sl (l.map zBi),.func 201 [] [.ref (.func 154 [] [])]] (.bool (l.any (fun x=>!(zEv x)))):=by
 refine zAe Tryz.f200 ?_;refine zAj 1<|zAn 2<|S_a [(7,.ret (I (zDI (fun x=>!zEv x) l)) [])] (ap (f223_2 l (by omega) (by omega)) an)<|S_g 2<|zAm<|E_a [] an (bool (decide (zDI (fun x=>!zEv x) l>=0))) [] ?_ rfl
 rw[zDA]
theorem f152_2(l:List LI)(hl:l.length<4294967296)(hr:∀ x∈l,x.length<1000000):FG 152 [.sl (l.map zBi),.func 154 [] []] (.bool (l.all (fun x=>zEv x))):=by
 refine zAe Tryz.f152 ?_;refine zAj 2<|zAn 2<|S_a [(12,.ret (bool (l.any fun x=>!zEv x)) [])] (ap (f200_2 l (by omega) (by omega)) an)<|S_g 2<|zAm<|E_a [] an (bool !l.any fun x=>!zEv x) [] ?_ rfl
 simp[dc]
theorem f76(n:Nw)(hs:Small n):FG 76 [nwV n] (I (zFK n)):=by
 refine zAe Tryz.f76 ?_;have h1:=hs.hl;have h2:=hs.hn;have h3:=hs.hs;have h4:=hs.hr;refine zAj 2<|zAc<|zAn 2<|S_a [(10,.ret (bool (inB n.h 1 10)) [])] (ap (f107 n.h (1) (10)) an)<|zAp 2<|zFD 9 (!inB n.h 1 10) (fun k0=>(S_g 19<|zB9<|zAj 1<|zAm<|E_a [] an (I 2) [] ?_ rfl)) (fun k0=>(zAp 2<|S_a [(0,.n n.l.length)] (ap (lnS prV n.l) an)<|zAp 3<|zJ5 15 ((n.l.length:Int)>15) (fun k1=>(S_g 13<|zB9<|zAj 1<|zAm<|E_a [] an (I 2) [] ?_ rfl)) (fun k1=>(zAp 2<|S_a [(0,.n n.n.length)] (ap (lnS ntV n.n) an)<|S_a [(10,.ret (bool (inB (n.n.length:Int) 1 8)) [])] (ap (f107 ((n.n.length:Int)) (1) (8)) an)<|zAp 3<|zFD 22 (!inB (n.n.length:Int) 1 8) (fun k2=>(S_g 6<|zB9<|zAj 1<|zAm<|E_a [] an (I 2) [] ?_ rfl)) (fun k2=>(zAp 2<|S_a [(0,.n n.s.length)] (ap (lnS zBi n.s) an)<|S_a [(10,.ret (bool (inB (n.s.length:Int) 1 6)) [])] (ap (f107 ((n.s.length:Int)) (1) (6)) an)<|S_g 2<|zEE (!inB (n.s.length:Int) 1 6) (fun k3=>(zAj 1<|zAm<|E_a [] an (I 2) [] ?_ rfl)) (fun k3=>(zAh<|zAc<|zAn 1<|S_a [(6,.ret (I (zCW n.h n.l)) [])] (ap (f150 n ?_ (by first|omega|(simp<;>omega))) an)<|S_g 1<|zAj 2<|zDZ (zCW n.h n.l=0) (fun k4=>(zAj 2<|zAm<|E_a [] an (I (zCW n.h n.l)) [] ?_ rfl)) (fun k4=>(zAh<|zAc<|zAn 1<|S_a [(6,.ret (I (zD7 n.n)) [])] (ap (f151 n ?_) an)<|S_g 1<|zAj 2<|zDZ (zD7 n.n=0) (fun k5=>(zAj 2<|zAm<|E_a [] an (I (zD7 n.n)) [] ?_ rfl)) (fun k5=>(zAh<|zAc<|zAg 0<|zAn 3<|S_a [(13,.ret (bool (n.s.all fun x=>zLN n.h x)) [])] (ap (f152_1 n ?_ n.s (by omega) (by omega)) an)<|S_g 2<|zEE (!n.s.all fun x=>zLN n.h x) (fun k6=>(zAj 1<|zAm<|E_a [] an (I 1) [] ?_ rfl)) (fun k6=>(zAn 2<|S_a [(7,.ret (bool (n.s.all fun x=>zEv x)) [])] (ap (f152_2 n.s (by omega) (by omega)) an)<|S_g 2<|zEE (!n.s.all fun x=>zEv x) (fun k7=>(zAj 1<|zAm<|E_a [] an (I 4) [] ?_ rfl)) (fun k7=>(zAh<|zAj 1<|zAm<|E_a [] an (I 0) [] ?_ rfl))))))))))))))))
 all_goals first|exact zYi k0|(have:=zYi k2;omega)|(simp[zFK, *];done)
end
end Go.Eng
set_option maxRecDepth 10000
set_option maxHeartbeats 4000000
namespace Go.Eng
open Go Go.Proofs
theorem zTn{l:LI}:∀ k,k<=l.length->(zHn (l.take k)).length<=k/\((∃ j,1<=j/\j<k/\l.getD j 0=l.getD (j-1) 0)->(zHn (l.take k)).length<k)
 |0,_=>⟨by simp[zHn],fun⟨j,h1,h2,_⟩=>by omega⟩
 | k + 1,hk=>by
  obtain⟨h1,h2⟩:=zTn (l:=l) k (by omega)
  cases k with
  |zero=>
   rw[zHj (show 0<l.length by omega)];exact⟨by simp[zHn,zXu],fun⟨j,h1,h2,_⟩=>by omega⟩
  | succ k =>
   rw[zHH (by omega) (by omega)];split
   ·exact⟨by omega,fun _=>by omega⟩
   ·rename_i hI;refine⟨by rw[bA];simp;omega,fun⟨j,g1,g2,g3⟩=>?_⟩;have hj:j<k+1:=by
     by_cases h:j=k+1
     ·subst h;exact absurd g3 hI
     ·omega
    have:=h2 ⟨j,g1,hj,g3⟩;rw[bA];simp;omega
theorem zTw{l:LI}(h:zF6 l=true)(j:Nat)(hj:j+1<l.length):l.getD j 0<=l.getD (j+1) 0:=by
 simp only[zF6,bj,bC,decide_eq_true_eq] at h;exact h j (by omega)
theorem zK9{l:LI}:zEv l=zTj l:=by
 rw[cZ];constructor
 ·intro h;simp only[zEv,bb,decide_eq_true_eq] at h;simp only[zTj,bj,bC,decide_eq_true_eq];intro j hj;have h1:=zTw h.1 j (by omega);have h2:=(zTn (l:=l) l.length (bi _)).2;rw[cF] at h2;by_cases he:l.getD (j+1) 0=l.getD j 0
  ·have:=h2 ⟨j+1,by omega,by omega,by simpa using he⟩;omega
  ·omega
 ·intro h;simp only[zTj,bj,bC,decide_eq_true_eq] at h;simp only[zEv,zF6,bb,decide_eq_true_eq,bj,bC];refine⟨fun j hj=>by have:=h j hj;omega,?_⟩;have:=zHw (l:=l) l.length (bi _) fun j h1 h2=>by
   have:=h (j-1) (by omega);rw[show j-1+1=j by omega] at this;omega
  rw[cF] at this;rw[this]
structure NwOk (n:Nw):Prop where
 err:zFK n=0
 h:1<=n.h/\n.h<=10
 ll:n.l.length<=15
 nl:1<=n.n.length/\n.n.length<=8
 sl:1<=n.s.length/\n.s.length<=6
 lr:∀ x∈n.l,(0<=x.1/\x.1<n.h)/\(0<=x.2/\x.2<n.h)
 lne:∀ x∈n.l,x.1≠x.2
 ld:(n.l.map pr2).Nodup
 na:∀ i,i<n.n.length->-1<=(n.n.getD i d0).1/\(n.n.getD i d0).1<i
 nd:∀ i k,k<i->i<n.n.length->(n.n.getD i d0).1≠-1->(n.n.getD k d0).1≠(n.n.getD i d0).1
 sr:∀ l∈n.s,∀ x∈l,0<=x/\x<n.h
 ss:∀ l∈n.s,zTj l=true
theorem zSz{l:LI}(h:zTj l=true):∀ i j,i<j->j<l.length->l.getD i 0<l.getD j 0:=by
 simp only[zTj,bj,bC,decide_eq_true_eq] at h;intro i j wu hj
 induction j with
 |zero=>omega|succ j ih=>
  have h1:=h j (by omega);by_cases he:i=j
  ·subst he;exact h1
  ·have:=ih (by omega) (by omega);omega
theorem zUC{l:LI}(h:zTj l=true){B:Int}(hb:∀ x∈l,0<=x/\x<B):(l.length:Int)<=B\/l.length=0:=by
 by_cases h0:l.length=0
 ·exact .inr h0
 ·left;have key:∀ j,j<l.length->(j:Int)<=l.getD j 0:=by
   intro j
   induction j with
   |zero=>intro hj;exact(zBP hb 0 hj).1|succ j ih=>
    intro hj;have h1:=ih (by omega);have h2:=zSz h j (j+1) (by omega) hj;omega
  have h1:=key (l.length-1) (by omega);have h2:=(zBP (d:=(0:Int)) hb (l.length-1) (by omega)).2;omega
theorem NwOk.rows{n:Nw}(ho:NwOk n):∀ l∈n.s,l.length<=10:=fun l hl=>by
 have h1:=zUC (ho.ss l hl) (ho.sr l hl);have:=ho.h;omega
theorem NwOk.small{n:Nw}(ho:NwOk n):Small n:=⟨by have:=ho.ll;omega,by have:=ho.nl;omega,by have:=ho.sl;omega,fun l hl=>by have:=ho.rows l hl;omega⟩
theorem zEn{n lo hi:Int}(h:inB n lo hi=true):lo<=n/\n<=hi:=by simpa[inB] using h
theorem zQp{h:Int}{l:LP}(he:zCW h l=0):(l.all fun x=>zKG h x)=true/\(l.all fun x=>zKS x)=true/\(l.map pr2).Nodup:=by
 unfold zCW at he;split at he
 ·split at he
  ·split at he
   ·exact⟨by assumption,by assumption,by assumption⟩
   ·cases he
  ·cases he
 ·cases he
theorem zRD{l:List (Int×Bool)}(he:zD7 l=0):zRr l=true/\(range l.length).any (zNE l)=false:=by
 unfold zD7 at he;split at he
 ·split at he
  ·cases he
  ·rename_i h1 h2;exact⟨h1,by rw[cu] at h2;exact h2⟩
 ·cases he
theorem zW2{n:Nw}(he:zFK n=0):NwOk n:=by
 have he0:=he;unfold zFK at he;split at he
 ·cases he
 split at he
 ·cases he
 split at he
 ·cases he
 split at he
 ·cases he
 rename_i c1 c2 c3 c4;split at he
 case isFalse h=>exact absurd he h
 rename_i c5;split at he
 case isFalse h=>exact absurd he h
 rename_i c6;split at he
 ·cases he
 split at he
 ·cases he
 rename_i c7 c8;simp only[cu,bB] at c1 c3 c4 c7 c8;obtain⟨d1,d2,d3⟩:=zQp c5;obtain⟨e1,e2⟩:=zRD c6;rw[bj] at c7 c8 d1 d2;simp only[zRr,bj,bC] at e1;simp only[cV,bC] at e2;have a3:=zEn c3;have a4:=zEn c4;refine⟨he0,zEn c1,by omega,by omega,by omega,fun x hx=>?_,fun x hx=>by have:=d2 x hx;simpa[zKS] using this,d3,fun i hi=>?_,fun i k hk hi hI hx=>?_,fun l hl x hx=>?_,fun l hl=>by rw[<- zK9];exact c8 l hl⟩
 ·have:=d1 x hx;simp only[zKG,bb] at this;have b1:=zEn this.1;have b2:=zEn this.2;omega
 ·have:=zEn (e1 i hi);omega
 ·refine e2 i hi ?_;simp only[zNE,bb,decide_eq_true_eq,bN];refine⟨hI,n.n.getD k d0,?_,hx⟩;rw[zAr (by omega)];exact io.2 ⟨k,by omega,rfl⟩
 ·have:=c7 l hl;simp only[zLN,bj] at this;have:=zEn (this x hx);omega
def zNm(F:LI)(i:Nat)(a:Int):LI:=if a = -1 then F.set i i else(F.set i i).set i ((F.set i i).getD a.toNat 0)
def zQa(l:List (Int×Bool)):Nat->LI
 |0=>replicate 8 0|i+1=>zNm (zQa l i) i (l.getD i d0).1
def zM9(F:LI)(L:LI)(i k:Nat):LI:=if F.getD k 0=F.getD i 0 then L.set i (max (L.getD i 0) k) else L
def zUA(F:LI)(i:Nat)(L:LI)(k:Nat):LI:=(range k).foldl (fun L k=>zM9 F L i k) L
def zRg(F:LI)(m i:Nat):LI:=(range i).foldl (fun L i=>zUA F i L m) (replicate 8 0)
theorem zRG{F:LI}{i:Nat}{a:Int}:(zNm F i a).length=F.length:=by unfold zNm;split<;>simp
theorem zHy{l:List (Int×Bool)}:∀ i,(zQa l i).length=8
 |0=>by simp[zQa]|i+1=>by rw[zQa,zRG];exact zHy i
theorem zRk{F L:LI}{i k:Nat}:(zM9 F L i k).length=L.length:=by unfold zM9;split<;>simp
theorem zHQ{F L:LI}{i k:Nat}:zUA F i L (k+1)=zM9 F (zUA F i L k) i k:=by
 simp only[zUA,cw,cH,bZ,cM]
theorem zI7{F L:LI}{i:Nat}:∀ k,(zUA F i L k).length=L.length
 |0=>rfl|k+1=>by rw[zHQ,zRk];exact zI7 k
theorem zF8{F:LI}{m i:Nat}:zRg F m (i+1)=zUA F i (zRg F m i) m:=by
 simp only[zRg,cw,cH,bZ,cM]
theorem zI9{F:LI}{m:Nat}:∀ i,(zRg F m i).length=8
 |0=>by simp[zRg]|i+1=>by rw[zF8,zI7];exact zI9 i
def zAd(n:Nw):LI:=zQa n.n n.n.length
def zAA(n:Nw):LI:=zRg (zAd n) n.n.length n.n.length
abbrev zBx(n:Nw)(cs ms:PV)(F L:LI):PV := .agg [I n.h,.sl (n.l.map prV),.sl (n.n.map ntV),.sl (n.s.map zBi),cs,ms,I (F.getD 0 0),I (F.getD 1 0),I (F.getD 2 0),I (F.getD 3 0),I (F.getD 4 0),I (F.getD 5 0),I (F.getD 6 0),I (F.getD 7 0),I (L.getD 0 0),I (L.getD 1 0),I (L.getD 2 0),I (L.getD 3 0),I (L.getD 4 0),I (L.getD 5 0),I (L.getD 6 0),I (L.getD 7 0)]
abbrev zDS(M:LP):PV := .omap (M.map zDD)
section
variable [Yo]
theorem f139_1(n:Nw)(ho:NwOk n):FG 139 [nwV n] (.tup [.box (zBx n (.own 2 []) (zDS (n.l.map pr2)) (zAd n) (zAA n)),I 0]):=by
 have hs:=ho.small;have he:=ho.err;have h1:=ho.nl.2;have h2:=ho.ll;have h3:=ho.ld;have h4:=ho.na;refine zAe Tryz.f139 ?_;refine zAj 3<|zAc<|zAn 1<|S_a [(6,.ret (I (zFK n)) [])] (ap (f76 n (by omega)) an)<|S_g 1<|zAj 2<|zH6 (zFK n=0) (by omega)<|zAh<|zAj 5<|zAc<|zAn 2<|S_a [(0,.n n.l.length)] (ap (lnS prV n.l) an)<|S_g 1<|zAg 0 ?_
 refine zAu (fun(i,M)=>i<=n.l.length/\M=(n.l.take i).map pr2) (fun(i,M)=>[(5,.box (zBx n (.own 2 []) (zDS M) (replicate 8 0) (replicate 8 0))),(24,I (i:Nat))]) (fun(i,_)=>n.l.length-i) ((0:Nat),([]:LP)) ⟨bR _,rfl⟩ fun(i,M) ⟨hi,hM⟩=>?_;by_cases yH:i<n.l.length
 ·have yK:(n.l.take (i+1)).map pr2=M++[pr2 (n.l.getD i d0)]:=by rw[zBI (d:=d0) yH,cB,<- hM];rfl
  have hin:pr2 (n.l.getD i d0)∉M:=fun hm=>by
   rw[<- cm (i+1) n.l,cB,yK] at h3;have h2:=(bI.1 h3).1;have h3:=(bI.1 h2).2.2;exact h3 _ hm _ (bl.2 rfl) rfl
  have yQ:=zIV hin;refine zAj 1<|zAc<|zAL ((i:Int)<(n.l.length:Int)) (by omega)<|zAh<|zAc<|zAg 1<|zAc<|zAb<|S_a [(2,.v (prV (n.l.getD i d0)))] (ap (zBN d0 (by omega):(map prV n.l)[i]? = some (prV (n.l.getD i d0))) an)<|S_g 3<|zAb<|zAp 5<|S_a [(6,.ret (prV (pr2 (n.l.getD i d0))) [])] (ap (f110 (n.l.getD i d0)) an)<|S_a [(4,.ix none),(0,.v (omap (map zDD (M++[pr2 (n.l.getD i d0)]))))] (ap yQ<|ap ((by simp):omap (map zDD M++[(prV (pr2 (n.l.getD i d0)),bool true)])=omap (map zDD (M++[pr2 (n.l.getD i d0)]))) an)<|zA6<|zAb<|S_i i<|S_g 1 ?_
  exact rnd (i+1,M++[pr2 (n.l.getD i d0)]) ⟨by omega,yK.symm⟩ (by simp only;omega)
 ·refine zAj 1<|zAc<|zAS ((i:Int)<(n.l.length:Int)) (by omega)<|zAG 0<|zAc<|zAn 2<|S_a [(0,.n n.n.length)] (ap (lnS ntV n.n) an)<|S_g 1<|zAg 2 ?_
  rw[bz (by omega)] at hM;subst hM;clear h3;generalize hMM:n.l.map pr2=MM;refine zAu (fun(i,F)=>i<=n.n.length/\F=zQa n.n i) (fun(i,F)=>[(5,.box (zBx n (.own 2 []) (zDS MM) F (replicate 8 0))),(38,I (i:Nat))]) (fun(i,_)=>n.n.length-i) ((0:Nat),replicate 8 0) ⟨bR _,rfl⟩ fun(i,F) ⟨hi,hF⟩=>?_;have hFl:F.length=8:=by rw[hF];exact zHy i
  by_cases yH:i<n.n.length
  ·have h4i:=h4 i yH;have yC:zQa n.n (i+1)=zNm F i (n.n.getD i d0).1:=by rw[hF];rfl
   refine zAj 1<|zAc<|zAL ((i:Int)<(n.n.length:Int)) (by omega)<|zAh<|zAc<|zAg 3<|zAn 1<|S_a [(2,.v (agg [I (n.n.getD i d0).fst,bool (n.n.getD i d0).snd]))] (ap (zBN d0 (by omega):(map ntV n.n)[i]? = some (agg [I (n.n.getD i d0).fst,bool (n.n.getD i d0).snd])) an)<|S_g 4<|zAn 5<|S_a [(2,.ob),(1,.v (addr 5 [] 0 (6+i) none))] (ap ((by exact zAl (by omega)):decide (i<8)=true)<|ap ((zF2 (by kernel_rfl)):addr 5 [] 0 (6+i*(fun x=>x.size) Tryz.prog.types[3]) none=addr 5 [] 0 (6+i) none) an)<|S_a [(8,.root (((zBx n (.own 2 []) (zDS MM) (F.set i (i:Int)) (replicate 8 0))).box) true)] (ap (zRd (zLu (q:=((zBx n (.own 2 []) (zDS MM) F (replicate 8 0))).box) (xs:=[(zBx n (.own 2 []) (zDS MM) F (replicate 8 0))]) (x:=(zBx n (.own 2 []) (zDS MM) F (replicate 8 0))) (y:=(zBx n (.own 2 []) (zDS MM) (F.set i (i:Int)) (replicate 8 0))) (q':=((zBx n (.own 2 []) (zDS MM) (F.set i (i:Int)) (replicate 8 0))).box) rfl (zPi (A:=[I n.h,prs n.l,sl (map ntV n.n),sl (map zBi n.s),own 2 [],omap (map zDD MM)]) (B:=[z8 0,z8 1,z8 2,z8 3,z8 4,z8 5,z8 6,z8 7]) (F:=F) (m:=8) (j:=i) (u:=(i:Int)) (by first|rfl|exact zB7 (by kernel_rfl)|exact zB6 (by kernel_rfl)|(simp;done)) (by omega) (by omega)) rfl (hb:=zPN (A:=[I n.h,prs n.l,sl (map ntV n.n),sl (map zBi n.s),own 2 [],omap (map zDD MM)]) (B:=[z8 0,z8 1,z8 2,z8 3,z8 4,z8 5,z8 6,z8 7]) (F:=F) (m:=8) (j:=i) (by first|rfl|exact zB7 (by kernel_rfl)|exact zB6 (by kernel_rfl)|(simp;done)) (by omega))) rfl:zBO ((zBx n (.own 2 []) (zDS MM) F (replicate 8 0))).box [] 0 (6+i) (I (i:Int)).cells=some ((zBx n (.own 2 []) (zDS MM) (F.set i (i:Int)) (replicate 8 0))).box/\zAH ((zBx n (.own 2 []) (zDS MM) F (replicate 8 0))).box ((zBx n (.own 2 []) (zDS MM) (F.set i (i:Int)) (replicate 8 0))).box []=true) an)<|zA6<|zAj 3<|zDZ ((n.n.getD i d0).fst = -1) (fun k0=>(zAb<|zAp 7<|S_a [(0,.ob),(1,.ob),(1,.v (addr 5 [] 0 (6+(n.n.getD i d0).fst.toNat) none))] (ap ((by exact zAl (by omega)):decide (0<=(n.n.getD i d0).fst)=true)<|ap ((by exact zAl (by omega)):decide ((n.n.getD i d0).fst.toNat<8)=true)<|ap ((zF2 (by kernel_rfl)):addr 5 [] 0 (6+(n.n.getD i d0).fst.toNat*(fun x=>x.size) Tryz.prog.types[3]) none=addr 5 [] 0 (6+(n.n.getD i d0).fst.toNat) none) an)<|S_a [(0,.cs true ([I ((F.set i (i:Int)).getD (n.n.getD i d0).fst.toNat 0)]))] (ap (zB2 (q:=((zBx n (.own 2 []) (zDS MM) (F.set i (i:Int)) (replicate 8 0))).box) (xs:=[(zBx n (.own 2 []) (zDS MM) (F.set i (i:Int)) (replicate 8 0))]) (x:=(zBx n (.own 2 []) (zDS MM) (F.set i (i:Int)) (replicate 8 0))) rfl rfl (zKW (A:=[I n.h,prs n.l,sl (map ntV n.n),sl (map zBi n.s),own 2 [],omap (map zDD MM)]) (B:=[z8 0,z8 1,z8 2,z8 3,z8 4,z8 5,z8 6,z8 7]) (F:=F.set i (i:Int)) (m:=8) (j:=(n.n.getD i d0).fst.toNat) (by first|rfl|exact zB7 (by kernel_rfl)|exact zB6 (by kernel_rfl)|(simp;done)) (by omega)):zAo 5 ((zBx n (.own 2 []) (zDS MM) (F.set i (i:Int)) (replicate 8 0))).box [] 0 (6+(n.n.getD i d0).fst.toNat) 1=some (true,[I ((F.set i (i:Int)).getD (n.n.getD i d0).fst.toNat 0)])) an)<|zAp 2<|S_a [(2,.ob),(1,.v (addr 5 [] 0 (6+i) none))] (ap ((by exact zAl (by omega)):decide (i<8)=true)<|ap ((zF2 (by kernel_rfl)):addr 5 [] 0 (6+i*(fun x=>x.size) Tryz.prog.types[3]) none=addr 5 [] 0 (6+i) none) an)<|S_a [(8,.root (((zBx n (.own 2 []) (zDS MM) ((F.set i (i:Int)).set i ((F.set i (i:Int)).getD (n.n.getD i d0).fst.toNat 0)) (replicate 8 0))).box) true)] (ap (zRd (zLu (q:=((zBx n (.own 2 []) (zDS MM) (F.set i (i:Int)) (replicate 8 0))).box) (xs:=[(zBx n (.own 2 []) (zDS MM) (F.set i (i:Int)) (replicate 8 0))]) (x:=(zBx n (.own 2 []) (zDS MM) (F.set i (i:Int)) (replicate 8 0))) (y:=(zBx n (.own 2 []) (zDS MM) ((F.set i (i:Int)).set i ((F.set i (i:Int)).getD (n.n.getD i d0).fst.toNat 0)) (replicate 8 0))) (q':=((zBx n (.own 2 []) (zDS MM) ((F.set i (i:Int)).set i ((F.set i (i:Int)).getD (n.n.getD i d0).fst.toNat 0)) (replicate 8 0))).box) rfl (zPi (A:=[I n.h,prs n.l,sl (map ntV n.n),sl (map zBi n.s),own 2 [],omap (map zDD MM)]) (B:=[z8 0,z8 1,z8 2,z8 3,z8 4,z8 5,z8 6,z8 7]) (F:=F.set i (i:Int)) (m:=8) (j:=i) (u:=(F.set i (i:Int)).getD (n.n.getD i d0).fst.toNat 0) (by first|rfl|exact zB7 (by kernel_rfl)|exact zB6 (by kernel_rfl)|(simp;done)) (by omega) (by first|omega|(simp<;>omega))) rfl (hb:=zPN (A:=[I n.h,prs n.l,sl (map ntV n.n),sl (map zBi n.s),own 2 [],omap (map zDD MM)]) (B:=[z8 0,z8 1,z8 2,z8 3,z8 4,z8 5,z8 6,z8 7]) (F:=F.set i (i:Int)) (m:=8) (j:=i) (by first|rfl|exact zB7 (by kernel_rfl)|exact zB6 (by kernel_rfl)|(simp;done)) (by omega))) rfl:zBO ((zBx n (.own 2 []) (zDS MM) (F.set i (i:Int)) (replicate 8 0))).box [] 0 (6+i) (I ((F.set i (i:Int)).getD (n.n.getD i d0).fst.toNat 0)).cells=some ((zBx n (.own 2 []) (zDS MM) ((F.set i (i:Int)).set i ((F.set i (i:Int)).getD (n.n.getD i d0).fst.toNat 0)) (replicate 8 0))).box/\zAH ((zBx n (.own 2 []) (zDS MM) (F.set i (i:Int)) (replicate 8 0))).box ((zBx n (.own 2 []) (zDS MM) ((F.set i (i:Int)).set i ((F.set i (i:Int)).getD (n.n.getD i d0).fst.toNat 0)) (replicate 8 0))).box []=true) an)<|zA6<|zAb<|S_i i<|S_g 1 ?_)) (fun k0=>(zAh<|zAb<|S_i i<|S_g 1 ?_))
   ·rw[zNm,if_neg k0] at yC;exact rnd (i+1,(F.set i i).set i ((F.set i i).getD (n.n.getD i d0).1.toNat 0)) ⟨by omega,yC.symm⟩ (by simp only;omega)
   ·rw[zNm,if_pos k0] at yC;exact rnd (i+1,F.set i i) ⟨by omega,yC.symm⟩ (by simp only;omega)
  ·have hFF:F=zAd n:=by rw[hF,zAd,show i=n.n.length by omega]
   subst hFF;clear hF;have gA:zAA n=zRg (zAd n) n.n.length n.n.length:=rfl;rw[gA];generalize hG:zAd n=F at *;clear gA h4;refine zAj 1<|zAc<|zAS ((i:Int)<(n.n.length:Int)) (by omega)<|zAG 2<|zAc<|zAn 2<|S_a [(0,.n n.n.length)] (ap (lnS ntV n.n) an)<|S_g 1<|zAg 4 ?_
   refine zAu (fun(i,L)=>i<=n.n.length/\L=zRg F n.n.length i) (fun(i,L)=>[(5,.box (zBx n (.own 2 []) (zDS MM) F L)),(68,I (i:Nat))]) (fun(i,_)=>n.n.length-i) ((0:Nat),replicate 8 0) ⟨bR _,rfl⟩ fun(i,L) ⟨hi,hL⟩=>?_;have hLl:L.length=8:=by rw[hL];exact zI9 i
   by_cases yH:i<n.n.length
   ·have yC:=zF8 (F:=F) (m:=n.n.length) (i:=i);rw[<- hL] at yC;refine zAj 1<|zAc<|zAL ((i:Int)<(n.n.length:Int)) (by omega)<|zAh<|zAc<|zAg 5<|zAj 2<|zAn 2<|S_a [(0,.n n.n.length)] (ap (lnS ntV n.n) an)<|S_g 1<|zAg 6 ?_
    refine zAu (fun(k,Q)=>k<=n.n.length/\Q=zUA F i L k) (fun(k,Q)=>[(5,.box (zBx n (.own 2 []) (zDS MM) F Q)),(74,I (k:Nat))]) (fun(k,_)=>n.n.length-k) ((0:Nat),L) ⟨bR _,rfl⟩ fun(k,Q) ⟨hk,hQ⟩=>?_;have hQl:Q.length=8:=by rw[hQ,zI7];exact hLl
    by_cases w6:k<n.n.length
    ·have jP:=zHQ (F:=F) (L:=L) (i:=i) (k:=k);rw[<- hQ] at jP;clear yC hL hQ;refine zAj 1<|zAc<|zAL ((k:Int)<(n.n.length:Int)) (by omega)<|zAh<|zAc<|zAg 7<|zAj 2<|zAn 4<|S_a [(2,.ob),(1,.v (addr 5 [] 0 (6+k) none))] (ap ((by exact zAl (by omega)):decide (k<8)=true)<|ap ((zF2 (by kernel_rfl)):addr 5 [] 0 (6+k*(fun x=>x.size) Tryz.prog.types[3]) none=addr 5 [] 0 (6+k) none) an)<|S_a [(0,.cs true ([I (F.getD k 0)]))] (ap (zB2 (q:=((zBx n (.own 2 []) (zDS MM) F Q)).box) (xs:=[(zBx n (.own 2 []) (zDS MM) F Q)]) (x:=(zBx n (.own 2 []) (zDS MM) F Q)) rfl rfl (zKW (A:=[I n.h,prs n.l,sl (map ntV n.n),sl (map zBi n.s),own 2 [],omap (map zDD MM)]) (B:=[I (Q.getD 0 0),I (Q.getD 1 0),I (Q.getD 2 0),I (Q.getD 3 0),I (Q.getD 4 0),I (Q.getD 5 0),I (Q.getD 6 0),I (Q.getD 7 0)]) (F:=F) (m:=8) (j:=k) (by first|rfl|exact zB7 (by kernel_rfl)|exact zB6 (by kernel_rfl)|(simp;done)) (by omega)):zAo 5 ((zBx n (.own 2 []) (zDS MM) F Q)).box [] 0 (6+k) 1=some (true,[I (F.getD k 0)])) an)<|zAp 4<|S_a [(2,.ob),(1,.v (addr 5 [] 0 (6+i) none))] (ap ((by exact zAl (by omega)):decide (i<8)=true)<|ap ((zF2 (by kernel_rfl)):addr 5 [] 0 (6+i*(fun x=>x.size) Tryz.prog.types[3]) none=addr 5 [] 0 (6+i) none) an)<|S_a [(0,.cs true ([I (F.getD i 0)]))] (ap (zB2 (q:=((zBx n (.own 2 []) (zDS MM) F Q)).box) (xs:=[(zBx n (.own 2 []) (zDS MM) F Q)]) (x:=(zBx n (.own 2 []) (zDS MM) F Q)) rfl rfl (zKW (A:=[I n.h,prs n.l,sl (map ntV n.n),sl (map zBi n.s),own 2 [],omap (map zDD MM)]) (B:=[I (Q.getD 0 0),I (Q.getD 1 0),I (Q.getD 2 0),I (Q.getD 3 0),I (Q.getD 4 0),I (Q.getD 5 0),I (Q.getD 6 0),I (Q.getD 7 0)]) (F:=F) (m:=8) (j:=i) (by first|rfl|exact zB7 (by kernel_rfl)|exact zB6 (by kernel_rfl)|(simp;done)) (by omega)):zAo 5 ((zBx n (.own 2 []) (zDS MM) F Q)).box [] 0 (6+i) 1=some (true,[I (F.getD i 0)])) an)<|S_g 1<|zC4 (F.getD k 0=F.getD i 0) (fun k1=>(zAb<|zAp 6<|S_a [(2,.ob),(1,.v (addr 5 [] 0 (14+i) none))] (ap ((by exact zAl (by omega)):decide (i<8)=true)<|ap ((zF2 (by kernel_rfl)):addr 5 [] 0 (14+i*(fun x=>x.size) Tryz.prog.types[3]) none=addr 5 [] 0 (14+i) none) an)<|S_a [(0,.cs true ([I (Q.getD i 0)]))] (ap (zB2 (q:=((zBx n (.own 2 []) (zDS MM) F Q)).box) (xs:=[(zBx n (.own 2 []) (zDS MM) F Q)]) (x:=(zBx n (.own 2 []) (zDS MM) F Q)) rfl rfl (zKW (A:=[I n.h,prs n.l,sl (map ntV n.n),sl (map zBi n.s),own 2 [],omap (map zDD MM),I (F.getD 0 0),I (F.getD 1 0),I (F.getD 2 0),I (F.getD 3 0),I (F.getD 4 0),I (F.getD 5 0),I (F.getD 6 0),I (F.getD 7 0)]) (B:=[]) (F:=Q) (m:=8) (j:=i) (by first|rfl|exact zB7 (by kernel_rfl)|exact zB6 (by kernel_rfl)|(simp;done)) (by omega)):zAo 5 ((zBx n (.own 2 []) (zDS MM) F Q)).box [] 0 (14+i) 1=some (true,[I (Q.getD i 0)])) an)<|zAp 2<|S_a [(9,.ret (I (max (Q.getD i 0) (k:Int))) [])] (ap (f165 (Q.getD i 0) ((k:Int))) an)<|zAp 2<|S_a [(2,.ob),(1,.v (addr 5 [] 0 (14+i) none))] (ap ((by exact zAl (by omega)):decide (i<8)=true)<|ap ((zF2 (by kernel_rfl)):addr 5 [] 0 (14+i*(fun x=>x.size) Tryz.prog.types[3]) none=addr 5 [] 0 (14+i) none) an)<|S_a [(8,.root (((zBx n (.own 2 []) (zDS MM) F (Q.set i (max (Q.getD i 0) (k:Int))))).box) true)] (ap (zRd (zLu (q:=((zBx n (.own 2 []) (zDS MM) F Q)).box) (xs:=[(zBx n (.own 2 []) (zDS MM) F Q)]) (x:=(zBx n (.own 2 []) (zDS MM) F Q)) (y:=(zBx n (.own 2 []) (zDS MM) F (Q.set i (max (Q.getD i 0) (k:Int))))) (q':=((zBx n (.own 2 []) (zDS MM) F (Q.set i (max (Q.getD i 0) (k:Int))))).box) rfl (zPi (A:=[I n.h,prs n.l,sl (map ntV n.n),sl (map zBi n.s),own 2 [],omap (map zDD MM),I (F.getD 0 0),I (F.getD 1 0),I (F.getD 2 0),I (F.getD 3 0),I (F.getD 4 0),I (F.getD 5 0),I (F.getD 6 0),I (F.getD 7 0)]) (B:=[]) (F:=Q) (m:=8) (j:=i) (u:=max (Q.getD i 0) (k:Int)) (by first|rfl|exact zB7 (by kernel_rfl)|exact zB6 (by kernel_rfl)|(simp;done)) (by omega) (by omega)) rfl (hb:=zPN (A:=[I n.h,prs n.l,sl (map ntV n.n),sl (map zBi n.s),own 2 [],omap (map zDD MM),I (F.getD 0 0),I (F.getD 1 0),I (F.getD 2 0),I (F.getD 3 0),I (F.getD 4 0),I (F.getD 5 0),I (F.getD 6 0),I (F.getD 7 0)]) (B:=[]) (F:=Q) (m:=8) (j:=i) (by first|rfl|exact zB7 (by kernel_rfl)|exact zB6 (by kernel_rfl)|(simp;done)) (by omega))) rfl:zBO ((zBx n (.own 2 []) (zDS MM) F Q)).box [] 0 (14+i) (I (max (Q.getD i 0) (k:Int))).cells=some ((zBx n (.own 2 []) (zDS MM) F (Q.set i (max (Q.getD i 0) (k:Int))))).box/\zAH ((zBx n (.own 2 []) (zDS MM) F Q)).box ((zBx n (.own 2 []) (zDS MM) F (Q.set i (max (Q.getD i 0) (k:Int))))).box []=true) an)<|zA6<|zAb<|S_i k<|S_g 1 ?_)) (fun k1=>(zAh<|zAb<|S_i k<|S_g 1 ?_))
     ·rw[zM9,if_pos (by assumption)] at jP;exact rnd (k+1,Q.set i (max (Q.getD i 0) k)) ⟨by omega,jP.symm⟩ (by simp only;omega)
     ·rw[zM9,if_neg (by assumption)] at jP;exact rnd (k+1,Q) ⟨by omega,jP.symm⟩ (by simp only;omega)
    ·refine zAj 1<|zAc<|zAS ((k:Int)<(n.n.length:Int)) (by omega)<|zAG 6<|zAb<|S_i i<|S_g 1 ?_
     exact rnd (i+1,Q) ⟨by omega,by rw[yC,hQ,show k=n.n.length by omega]⟩ (by simp only;omega)
   ·refine zAj 1<|zAc<|zAS ((i:Int)<(n.n.length:Int)) (by omega)<|zAG 4<|zAn 1<|zAp 1<|S_g 1<|zAm<|E_a [] an (tup [((zBx n (.own 2 []) (zDS MM) F L)).box,I 0]) [] ?_ rfl
    rw[hL,show i=n.n.length by omega]
end
end Go.Eng
set_option maxRecDepth 10000
set_option maxHeartbeats 4000000
namespace Go.Eng
open Go Go.Proofs
abbrev mapM(M:LP):PV := .map (M.map zDD)
abbrev zE8(n:Nw)(cs:LP):PV := .ref (zBx n (prs cs) (mapM (n.l.map pr2)) (zAd n) (zAA n))
def zKn(n:Nw)(c:Int×Int):Bool:=inB c.1 0 (n.n.length-1)&&inB c.2 0 (n.s.length-1)
def zQJ(n:Nw)(cs:LP):Int:=if zFK n=0 then if (cs.length:Int)>16 then 2 else if (!cs.all fun c=>zKn n c)=true then 1 else 0 else zFK n
def zQZ(n:Nw)(cs:LP)(e:Int):Int:=if zQJ n cs=0 then if inB e 0 12=true then 0 else 3 else zQJ n cs
structure CrOk (n:Nw) (cs:LP):Prop where
 err:zQJ n cs=0
 nw:NwOk n
 len:cs.length<=16
 cs:∀ c∈cs,(0<=c.1/\c.1<n.n.length)/\(0<=c.2/\c.2<n.s.length)
structure CrW (n:Nw) (cs:LP):Prop where
 nw:NwOk n
 len:cs.length<=1000
 cs:∀ c∈cs,(0<=c.1/\c.1<n.n.length)/\(0<=c.2/\c.2<n.s.length)
theorem CrOk.w{n:Nw}{cs:LP}(h:CrOk n cs):CrW n cs:=⟨h.nw,by have:=h.len;omega,h.cs⟩
theorem zWQ{n:Nw}{cs:LP}(he:zQJ n cs=0):CrOk n cs:=by
 have he0:=he;unfold zQJ at he;split at he
 case isFalse h=>exact absurd he h
 rename_i c1;split at he
 ·cases he
 split at he
 ·cases he
 rename_i c2 c3;simp only[cu,bB,bj] at c3;refine⟨he0,zW2 c1,by omega,fun c hc=>?_⟩;have:=c3 c hc;simp only[zKn,bb] at this;have b1:=zEn this.1;have b2:=zEn this.2;omega
structure EvOk (n:Nw) (cs:LP) (e:Int):Prop where
 err:zQZ n cs e=0
 cr:CrOk n cs
 ev:0<=e/\e<=12
theorem zRQ{n:Nw}{cs:LP}{e:Int}(he:zQZ n cs e=0):EvOk n cs e:=by
 have he0:=he;unfold zQZ at he;split at he
 case isFalse h=>exact absurd he h
 rename_i c1;split at he
 ·rename_i h;exact⟨he0,zWQ c1,zEn h⟩
 ·cases he
section
variable [Yo]
theorem f170(n:Nw)(x:Int)(hb:n.s.length<=6):FG 170 [nwV n,I x] (.bool (inB x 0 (n.s.length-1))):=by
 refine zAe Tryz.f170 ?_;refine zAj 2<|zAn 3<|S_a [(0,.n n.s.length)] (ap (lnS zBi n.s) an)<|S_a [(1,.v (I ((n.s.length:Int)-1)))] (ap ((zCj rfl (by omega)):I (IntKind.i64.wrap ((n.s.length:Int)-1))=I ((n.s.length:Int)-1)) an)<|S_a [(10,.ret (bool (inB x 0 ((n.s.length:Int)-1))) [])] (ap (f107 x (0) ((n.s.length:Int)-1)) an)<|S_g 1<|zAm E_0
theorem f118(n:Nw)(c:Int×Int)(cp:PV)(M:LP)(F L:LI)(ho:NwOk n):FG 118 [.ref (zBx n cp (mapM M) F L),prV c] (.bool (zKn n c)):=by
 have h1:=ho.nl.2;have h2:=ho.sl.2;refine zAe Tryz.f118 ?_;refine zAj 2<|zAn 6<|S_a [(8,.ret (bool (inB c.fst 0 ((n.n.length:Int)-1))) [])] (ap (f106 n c.fst (by omega)) an)<|zAp 1<|zFD 12 (inB c.fst 0 ((n.n.length:Int)-1)) (fun k0=>(zAp 6<|S_a [(8,.ret (bool (inB c.snd 0 ((n.s.length:Int)-1))) [])] (ap (f170 n c.snd (by omega)) an)<|S_g 2<|zAm<|E_a [] an (bool (inB c.snd 0 ((n.s.length:Int)-1))) [] ?_ rfl)) (fun k0=>(S_g 9<|zAm<|E_a [] an (bool false) [] ?_ rfl))
 ·simp only[zKn,k0,cR]
 ·simp only[zKn,k0,cX]
theorem f204_1(n:Nw)(M:LP)(F L:LI)(ho:NwOk n)(x:Int×Int):FG 204 [prV x,.ref (.func 118 [.ref (zBx n (.sl []) (mapM M) F L)] [])] (.bool (!(zKn n x))):=by
 refine zAe Tryz.f204 ?_;refine zAj 2<|zAn 2<|S_a [(7,.ret (bool (zKn n x)) [])] (ap (f118 n x (sl []) M F L (by omega)) an)<|S_g 2<|zAm E_0
theorem f203_1(n:Nw)(M:LP)(F L:LI)(ho:NwOk n)(l:LP)(hl:l.length<4294967296):FG 203 [.sl (l.map prV),.func 204 [] [.ref (.func 118 [.ref (zBx n (.sl []) (mapM M) F L)] [])]] (I (zDI (fun x=>!(zKn n x)) l)):=by
 refine zAe Tryz.f203 ?_;refine zAj 1<|zAc<|zAn 1<|S_a [(0,.n l.length)] (ap (lnS prV l) an)<|S_g 1<|zAg 0 ?_
 refine zAu (fun i=>i<=l.length/\∀ j,j<i->(fun x=>!(zKn n x)) (l.getD j d0)=false) (fun i=>[(8,I (i:Nat))]) (fun i=>l.length-i) (0:Nat) (by simp) fun i ⟨hi,ha⟩=>?_;refine zAj 1<|zAc<|zC4 ((i:Int)<(l.length:Int)) (fun k0=>(zAh<|zAc<|zAg 1<|zAj 2<|zAn 3<|S_a [(2,.v (prV (l.getD i d0)))] (ap (zBN d0 (by omega):(map prV l)[i]? = some (prV (l.getD i d0))) an)<|zAp 1<|S_a [(7,.ret (bool !zKn n (l.getD i d0)) [])] (ap (f204_1 n M F L (by omega) (l.getD i d0)) an)<|zA6<|zEE (!zKn n (l.getD i d0)) (fun k1=>(zAj 2<|zAm<|E_a [] an (I (i:Int)) [] ?_ rfl)) (fun k1=>(zAh<|zAb<|S_i i<|S_g 1 ?_)))) (fun k0=>(zAG 0<|zAj 1<|zAm<|E_a [] an (I (-1)) [] ?_ rfl))
 ·rw[zBK (i:=i) (by omega) (fun j hj=>by rw[<- zAr (d:=d0)];exact ha j hj) (by rw[<- zAr (d:=d0)];first|assumption|exact decide_eq_true ‹_›|(simp only[bD,decide_eq_false_iff_not];assumption))]
 ·refine⟨i+1,⟨by omega,fun j hj=>?_⟩,by omega,by kernel_rfl,by kernel_rfl⟩;rcases bE.1 hj with h|rfl
  ·exact ha j h
  ·first|assumption|exact decide_eq_false ‹_›|(simp only[bB,decide_eq_true_eq];first|assumption|(apply cJ;assumption))
 ·rw[zBV fun j hj=>by rw[<- zAr (d:=d0)];exact ha j (by omega)]
theorem f159_1(n:Nw)(M:LP)(F L:LI)(ho:NwOk n)(l:LP)(hl:l.length<4294967296):FG 159 [.sl (l.map prV),.func 204 [] [.ref (.func 118 [.ref (zBx n (.sl []) (mapM M) F L)] [])]] (.bool (l.any (fun x=>!(zKn n x)))):=by
 refine zAe Tryz.f159 ?_;refine zAj 1<|zAn 2<|S_a [(7,.ret (I (zDI (fun x=>!zKn n x) l)) [])] (ap (f203_1 n M F L (by omega) l (by omega)) an)<|S_g 2<|zAm<|E_a [] an (bool (decide (zDI (fun x=>!zKn n x) l>=0))) [] ?_ rfl
 rw[zDA]
theorem f164_1(n:Nw)(M:LP)(F L:LI)(ho:NwOk n)(l:LP)(hl:l.length<4294967296):FG 164 [.sl (l.map prV),.func 118 [.ref (zBx n (.sl []) (mapM M) F L)] []] (.bool (l.all (fun x=>zKn n x))):=by
 refine zAe Tryz.f164 ?_;refine zAj 2<|zAn 2<|S_a [(12,.ret (bool (l.any fun x=>!zKn n x)) [])] (ap (f159_1 n M F L (by omega) l (by omega)) an)<|S_g 2<|zAm<|E_a [] an (bool !l.any fun x=>!zKn n x) [] ?_ rfl
 simp[dc]
theorem f99_1(n:Nw)(cs:LP)(ho:CrOk n cs):FG 99 [nwV n,prs cs] (.tup [zE8 n cs,I 0]):=by
 have hn:=ho.nw;have hl:=ho.len;have ha:(!cs.all fun c=>zKn n c)=false:=by
  simp only[bB,bj];intro c hc;have:=ho.cs c hc;simp only[zKn,inB,bb,decide_eq_true_eq];omega
 refine zAe Tryz.f99 ?_;refine zAj 3<|zAn 1<|S_a [(6,.ret (tup [(zBx n (own 2 []) (zDS (map pr2 n.l)) (zAd n) (zAA n)).box,I 0]) [])] (ap (f139_1 n (by omega)) an)<|S_g 5<|zAc<|zAg 0<|zAj 3<|zAB<|zAn 1<|S_a [(0,.n cs.length)] (ap (lnS prV cs) an)<|S_g 2<|zAS ((cs.length:Int)>16) (by omega)<|zAn 3<|S_a [(13,.ret (bool (cs.all fun x=>zKn n x)) [])] (ap (f164_1 n (map pr2 n.l) (zAd n) (zAA n) (by omega) cs (by omega)) an)<|S_g 2<|zEE (!cs.all fun x=>zKn n x) (fun k0=>(zAj 2<|zAm<|E_a [] an (tup [PV.nilp,I 1]) [] ?_ rfl)) (fun k0=>(zAh<|zAj 5<|zAn 1<|zAp 1<|S_g 1<|zAm E_0))
 rw[ha] at k0;cases k0
theorem f90_1(n:Nw)(cs:LP)(e:Int)(ho:EvOk n cs e):FG 90 [nwV n,prs cs,I e] (.tup [zE8 n cs,I 0]):=by
 have hc:=ho.cr;have he:inB e 0 12=true:=by have:=ho.ev;simp only[inB,bb,decide_eq_true_eq];omega
 refine zAe Tryz.f90 ?_;refine zAj 3<|zAn 2<|S_a [(8,.ret (tup [zE8 n cs,I 0]) [])] (ap (f99_1 n cs (by omega)) an)<|S_g 5<|zAc<|zAn 4<|S_a [(10,.ret (bool (inB e 0 12)) [])] (ap (f107 e (0) (12)) an)<|S_g 2<|zEE (!inB e 0 12) (fun k0=>(zAb<|S_g 1<|zAc<|zAj 2<|zB9<|zAj 3<|zAm<|E_a [] an (tup [PV.nilp,I 3]) [] ?_ rfl)) (fun k0=>(zAh<|zAc<|zAj 2<|zAB<|zAh<|zAj 3<|zAm E_0))
 rw[he] at k0;cases k0
theorem f140(n:Nw)(cp:PV)(M:LP)(F L:LI)(ho:NwOk n)(h:Int)(s:Int)(hs:0<=s/\s<n.s.length):FG 140 [.ref (zBx n cp (mapM M) F L),I h,I s] (.bool (has (n.s.getD s.toNat []) h)):=by
 have h1:=zBP (d:=[]) ho.rows s.toNat (by omega);refine zAe Tryz.f140 ?_;refine zAj 1<|zAn 6<|S_a [(0,.ob),(1,.v (zBi (n.s.getD s.toNat [])))] (ap ((by exact zAl (by omega)):decide (0<=s)=true)<|ap (zBN [] (by omega):(map zBi n.s)[s.toNat]? = some (zBi (n.s.getD s.toNat []))) an)<|zAp 2<|S_a [(8,.ret (bool (has (n.s.getD s.toNat []) h)) [])] (ap (f58 (n.s.getD s.toNat []) h (by omega)) an)<|S_g 1<|zAm E_0
theorem f116(n:Nw)(cs:LP)(h:Int):FG 116 [zE8 n cs,I h] (.func 169 [] [.ref (zE8 n cs),.ref (I h)]):=by
 refine zAe Tryz.f116 ?_;refine zAj 3<|zAj 2<|zAm E_0
end
def zDe(n:Nw)(a b:Int):Bool:=decide (pr2 (a,b)∈n.l.map pr2)
def zG4(n:Nw)(h:Nat)(o:Nat):LN:=(range o).filter fun o=>zDe n h o
theorem zNw{n:Nw}{h o:Nat}:zG4 n h (o+1)=if zDe n h o=true then zG4 n h o++[o] else zG4 n h o:=by
 unfold zG4;rw[cw,db];by_cases hn:zDe n h o=true
 ·rw[if_pos hn];simp[hn]
 ·rw[if_neg hn];simp[hn]
theorem zVt{n:Nw}{h t m:Nat}(ht:t<=m):zG4 n h t <+: zG4 n h m:=by
  induction ht with
  |refl=>exact fO _
  | step _ ih => rw [zNw];split
                 · exact ih.trans (List.prefix_append _ _)
                 · exact ih
theorem zUB{α:Type}{x y:List α}(h:x <+: y){k:Int}(hk:k=x.length):x=y.take k.toNat:=by
 rw[hk,bQ];exact List.prefix_iff_eq_take.1 h
abbrev zJQ(n:Nw)(h o:Nat):List (List PV):=(zG4 n h o).map fun(o:Nat)=>[I o]
abbrev zSo(n:Nw)(cs:LP)(h:Nat):List PV:=[.ref (zE8 n cs),.ref (I h)]
theorem zXI[Yo](n:Nw)(cs:LP)(h:Nat)(ho:NwOk n)(hh:(h:Int)<n.h)(k:Int)(hk:k = -1\/1<=k/\k<=(zG4 n h n.h.toNat).length)(i:Nat):W Tryz.prog zCG 169 Tryz.f169.ntmps (Tryz.f169.body.getD .ret) (zBg ([]++PV.yld i::zSo n cs h) []) (some ⟨[],k,i⟩) fun x _ lg=>(x = .norm\/x = .ret)/\lg.map (·.xs)=some (if k = -1 then zJQ n h n.h.toNat else(zJQ n h n.h.toNat).take k.toNat):=by
 have hb:=ho.h;refine zAj 6<|zAg 0 ?_
 refine zXg (fun(o,xs,kc)=>o<=n.h.toNat/\xs=zJQ n h o/\kc=k-xs.length/\(k = -1\/1<=kc)) (fun(o,_,_)=>[(10,I (o:Nat))]) (fun(_,xs,kc)=>some ⟨xs,kc,i⟩) (fun(o,_,_)=>n.h.toNat-o) ((0:Nat),([]:List (List PV)),k) ⟨bR _,rfl,by simp,by omega⟩ fun(o,xs,kc) ⟨hr,j7,hkc,jX⟩=>?_;by_cases qS:(o:Int)<n.h
 ·have ji:=zNw (n:=n) (h:=h) (o:=o);by_cases hI:zDe n h o=true
  ·rw[if_pos hI] at ji;have vD:pr2 ((h:Int),(o:Int))∈n.l.map pr2:=by simpa[zDe] using hI
   obtain⟨j,hj,yQ⟩:=zOw vD;have jQ:zEN ((n.l.map pr2).map zDD) j=some (.bool true):=by
    have:j<n.l.length:=by simpa using hj
    simp[zEN,this]
   have gP:xs++[[I o]]=zJQ n h (o+1):=by rw[zJQ,ji,cB,j7];rfl
   have vC:xs++[[I o]] <+: zJQ n h n.h.toNat:=by rw[gP];exact(zVt (by omega)).map _
   refine zAj 1<|zAc<|zAL ((o:Int)<n.h) (by omega)<|zAh<|zAc<|zAg 1<|zAj 2<|zAn 7<|S_a [(6,.ret (prV (pr2 ((h:Int),(o:Int)))) [])] (ap (f110 (((h:Int),(o:Int)))) an)<|S_a [(2,.ix (some j)),(0,.v (bool true))] (ap yQ<|ap (jQ:zEN (map zDD (map pr2 n.l)) j=some (bool true)) an)<|zAp 3 ?_
   refine zWG kc xs [I o] i (fun hk3=>?_) (fun hk3=>?_) (by omega)
   ·refine S_g 2<|zB9<|zAm ?_
    refine⟨.inr rfl,?_⟩;have qO:k=(xs++[[I (o:Int)]]).length:=by simp;omega
    have jX:¬ k = -1:=by omega
    rw[if_neg jX,<- zUB vC qO];show Option.map _ _=_;kernel_rfl
   ·refine S_g 2<|zAB<|zAh<|zAb<|S_i o<|S_g 1 ?_
    exact rnd (o+1,xs++[[I o]],kc-1) ⟨by omega,gP,by simp;omega,by omega⟩ (by simp only;omega)
  ·rw[if_neg hI] at ji;have vD:pr2 ((h:Int),(o:Int))∉n.l.map pr2:=by simpa[zDe] using hI
   have yQ:=zIV vD;refine zAj 1<|zAc<|zAL ((o:Int)<n.h) (by omega)<|zAh<|zAc<|zAg 1<|zAj 2<|zAn 7<|S_a [(6,.ret (prV (pr2 ((h:Int),(o:Int)))) [])] (ap (f110 (((h:Int),(o:Int)))) an)<|S_a [(2,.ix none)] (ap yQ an)<|S_g 6<|zAB<|zAh<|zAb<|S_i o<|S_g 1 ?_
   exact rnd (o+1,xs,kc) ⟨by omega,by rw[zJQ,ji];exact j7,hkc,jX⟩ (by simp only;omega)
 ·have e:o=n.h.toNat:=by omega
  subst e;have hZ:xs.length=(zG4 n h n.h.toNat).length:=by rw[j7];simp
  have jX:k = -1:=by omega
  refine zAj 1<|zAc<|zAS ((n.h.toNat:Int)<n.h) (by omega)<|zAG 0 ?_
  refine⟨.inl rfl,?_⟩;rw[if_pos jX,<- j7];show Option.map _ _=_;kernel_rfl
theorem zZz(n:Nw)(cs:LP)(h:Nat)(ho:NwOk n)(hh:(h:Int)<n.h)(k:Int)(hk:k = -1\/1<=k/\k<=(zG4 n h n.h.toNat).length):@zVJ (yo1 Tryz.prog zCG) 169 [] (zSo n cs h) k (if k = -1 then zJQ n h n.h.toNat else(zJQ n h n.h.toNat).take k.toNat) :=
 zVg Tryz.f169 (fun i=>@zXI yo0 n cs h ho hh k hk i) (by omega)
noncomputable instance nwYo:Yo:=yo1 Tryz.prog zCG
theorem zVZ(n:Nw)(cs:LP)(h:Nat)(ho:NwOk n)(hh:(h:Int)<n.h):zGr 169 [] (zSo n cs h) (zJQ n h n.h.toNat):=by
 refine⟨?_,fun j h1 h2=>?_⟩
 ·have:=zZz n cs h ho hh (-1) (.inl rfl);rwa[if_pos rfl] at this
 ·have:=zZz n cs h ho hh (j:Int) (.inr ⟨by omega,by simpa using h2⟩);rw[if_neg (by omega)] at this;exact this
end Go.Eng
set_option maxRecDepth 10000
set_option maxHeartbeats 4000000
namespace Go.Eng
open Go Go.Proofs
abbrev hdV(w:LI):PV := .agg (zAY w 80)
def zRh(w:LI)(i:Nat)(x:Int):LI:=w.set i (max (w.getD i 0) x)
theorem zIL{w:LI}{i:Nat}{x:Int}:(zRh w i x).length=w.length:=by simp[zRh]
def begC(n:Nw)(h:Nat)(w:LI)(c:Int×Int):LI:=if has (n.s.getD c.2.toNat []) h=true then zRh w (h*8+((zAd n).getD c.1.toNat 0).toNat) c.1 else w
def begH(n:Nw)(h:Nat)(w:LI)(cs:LP):LI:=cs.foldl (begC n h) w
def begN(n:Nw)(cs:LP)(h:Nat):LI:=(range h).foldl (fun w h=>begH n h w cs) (replicate 80 (-1))
def nxtR(now:LI)(h o:Nat)(w:LI)(k:Nat):LI:=(range k).foldl (fun w i=>zRh w (h*8+i) (now.getD (o*8+i) 0)) w
def nxtH(now:LI)(h:Nat)(w:LI)(l:LN):LI:=l.foldl (fun w o=>nxtR now h o w 8) w
def nxtN(n:Nw)(now:LI)(h:Nat):LI:=(range h).foldl (fun w h=>nxtH now h w (zG4 n h n.h.toNat)) now
def zIi(n:Nw)(cs:LP):LI:=begN n cs n.h.toNat
def zB8(n:Nw)(now:LI):LI:=nxtN n now n.h.toNat
def zAD(n:Nw)(cs:LP):Nat->LI
 |0=>zIi n cs|k+1=>zB8 n (zAD n cs k)
theorem zUV{n:Nw}{h:Nat}{w:LI}{c:Int×Int}:(begC n h w c).length=w.length:=by unfold begC;split<;>simp[zIL]
theorem zL5{n:Nw}{h:Nat}:∀ {cs:LP} {w:LI},(begH n h w cs).length=w.length
 |[],w=>rfl|c::cs,w=>by
  show(begH n h (begC n h w c) cs).length=_
  rw[zL5,zUV]
theorem zJu{n:Nw}{cs:LP}{h:Nat}:begN n cs (h+1)=begH n h (begN n cs h) cs:=by
 simp only[begN,cw,cH,bZ,cM]
theorem zMp{n:Nw}{cs:LP}:∀ h,(begN n cs h).length=80
 |0=>by simp[begN]|h+1=>by rw[zJu,zL5];exact zMp h
theorem zTS{n:Nw}{h:Nat}{w:LI}{cs:LP}{i:Nat}(hi:i<cs.length):begH n h w (cs.take (i+1))=begC n h (begH n h w (cs.take i)) (cs.getD i d0):=zFy hi
theorem zJK{now w:LI}{h o k:Nat}:nxtR now h o w (k+1)=zRh (nxtR now h o w k) (h*8+k) (now.getD (o*8+k) 0):=by
 simp only[nxtR,cw,cH,bZ,cM]
theorem zHt{now w:LI}{h o:Nat}:∀ k,(nxtR now h o w k).length=w.length
 |0=>rfl|k+1=>by rw[zJK,zIL];exact zHt k
theorem zL2{now:LI}{h:Nat}:∀ {l:LN} {w:LI},(nxtH now h w l).length=w.length
 |[],_=>rfl|o::l,w=>by
  show(nxtH now h (nxtR now h o w 8) l).length=_
  rw[zL2,zHt]
theorem zKy{n:Nw}{now:LI}{h:Nat}:nxtN n now (h+1)=nxtH now h (nxtN n now h) (zG4 n h n.h.toNat):=by
 simp only[nxtN,cw,cH,bZ,cM]
theorem zI6{n:Nw}{now:LI}:∀ h,(nxtN n now h).length=now.length
 |0=>rfl|h+1=>by rw[zKy,zL2];exact zI6 h
theorem zTX{now:LI}{h:Nat}{w:LI}{l:LN}{i:Nat}(hi:i<l.length):nxtH now h w (l.take (i+1))=nxtR now h (l.getD i 0) (nxtH now h w (l.take i)) 8:=zFy hi
theorem zP7{n:Nw}{cs:LP}:(zIi n cs).length=80:=zMp _
theorem zRx{n:Nw}{w:LI}(h:w.length=80):(zB8 n w).length=80:=by rw[zB8,zI6,h]
theorem zBr{n:Nw}{cs:LP}:∀ k,(zAD n cs k).length=80
 |0=>zP7|k+1=>zRx (zBr k)
theorem zJT{F:LI}{i:Nat}{a:Int}(hF:F.length=8)(hi:i<8)(ha : -1<=a/\a<i)(j:Nat):(zNm F i a).getD j 0=if j=i then(if a = -1 then(i:Int) else F.getD a.toNat 0) else F.getD j 0:=by
 unfold zNm;by_cases hj:j=i
 ·subst hj;rw[if_pos rfl];split
  ·rw[zC6,if_pos ⟨rfl,by omega⟩]
  ·rw[zC6,if_pos ⟨rfl,by simp;omega⟩,zC6,if_neg (by omega)]
 ·rw[if_neg hj];split
  ·rw[zC6,if_neg (fun h=>hj h.1.symm)]
  ·rw[zC6,if_neg (fun h=>hj h.1.symm),zC6,if_neg (fun h=>hj h.1.symm)]
theorem zOa{n:Nw}(ho:NwOk n):∀ i,i<=n.n.length->∀ j,j<i->0<=(zQa n.n i).getD j 0/\(zQa n.n i).getD j 0<=j
 |0,_,j,hj=>absurd hj (b8 j)
 | i + 1,hi,j,hj=>by
  have h8:=ho.nl.2;have ha:=ho.na i (by omega);rw[zQa,zJT (zHy i) (by omega) ha];split
  ·subst j;split
   ·omega
   ·have:=zOa ho i (by omega) ((n.n.getD i d0).1.toNat) (by omega);omega
  ·exact zOa ho i (by omega) j (by omega)
theorem zBk{n:Nw}(ho:NwOk n)(j:Nat)(hj:j<n.n.length):0<=(zAd n).getD j 0/\(zAd n).getD j 0<=j:=zOa ho _ (bi _) j hj
theorem zS2{n:Nw}:(zAA n).length=8:=zI9 _
theorem f100(n:Nw)(cs:LP)(ho:CrW n cs):FG 100 [zE8 n cs] (hdV (zIi n cs)):=by
 have hb:=ho.nw.h;have hn:=ho.nw;have yO:=ho.len;refine zAe Tryz.f100 ?_;refine zAj 1<|zAj 1<|zAc<|zAj 1<|zAg 0 ?_
 refine zAu (fun(h,w)=>h<=10/\w.length=80/\∀ j,j<h*8->w.getD j 0 = -1) (fun(h,w)=>[(3,.box (hdV w)),(11,I (h:Nat))]) (fun(h,_)=>10-h) ((0:Nat),replicate 80 0) ⟨by omega,rfl,fun j h=>by omega⟩ fun(h,w) ⟨hh,hw,ha⟩=>?_;by_cases wv:h<10
 ·refine zAj 1<|zAc<|zAL ((h:Int)<10) (by omega)<|zAh<|zAc<|zAg 1<|zAj 2<|zAj 1<|zAg 2 ?_
  refine zAu (fun(i,v)=>i<=8/\v.length=80/\∀ j,j<h*8+i->v.getD j 0 = -1) (fun(i,v)=>[(3,.box (hdV v)),(14,I (i:Nat))]) (fun(i,_)=>8-i) ((0:Nat),w) ⟨by omega,hw,fun j h=>ha j (by omega)⟩ fun(i,v) ⟨hi,hv,hav⟩=>?_;by_cases yH:i<8
  ·refine zAj 1<|zAc<|zAL ((i:Int)<8) (by omega)<|zAh<|zAc<|zAg 3<|zAj 2<|zAb<|zAp 2<|S_a [(2,.ob)] (ap ((by exact zAl (by omega)):decide (h<10)=true) an)<|S_a [(2,.ob)] (ap ((by exact zAl (by omega)):decide (i<8)=true) an)<|S_a [(7,.root ((agg (zAY (v.set (h*8+i) (-1)) 80)).box) true)] (ap (zRd (zLu (q:=(agg (zAY v 80)).box) (xs:=[agg (zAY v 80)]) (x:=agg (zAY v 80)) (y:=agg (zAY (v.set (h*8+i) (-1)) 80)) (q':=(agg (zAY (v.set (h*8+i) (-1)) 80)).box) rfl (zOm (F:=v) (m:=80) (j:=h*8+i) (u:=-1) (by first|rfl|exact zB7 (by kernel_rfl)|exact zB6 (by kernel_rfl)|exact zDl (by kernel_rfl) (by kernel_rfl)|exact zC0 (by kernel_rfl)|exact zDr (by kernel_rfl) (by kernel_rfl)|exact zDg (by kernel_rfl)|(simp;done)) (by omega) (by omega)) rfl (hb:=zOx (F:=v) (m:=80) (j:=h*8+i) (by first|rfl|exact zB7 (by kernel_rfl)|exact zB6 (by kernel_rfl)|exact zDl (by kernel_rfl) (by kernel_rfl)|exact zC0 (by kernel_rfl)|exact zDr (by kernel_rfl) (by kernel_rfl)|exact zDg (by kernel_rfl)|(simp;done)) (by omega))) rfl:zBO (agg (zAY v 80)).box [] 0 (0+(h:Int).toNat*(fun x=>x.size) Tryz.prog.types[128]+(i:Int).toNat*(fun x=>x.size) Tryz.prog.types[3]) (I (-1)).cells=some (agg (zAY (v.set (h*8+i) (-1)) 80)).box/\zAH (agg (zAY v 80)).box (agg (zAY (v.set (h*8+i) (-1)) 80)).box []=true) an)<|zA6<|zAb<|S_i i<|S_g 1 ?_
   refine⟨(i+1,v.set (h*8+i) (-1)),⟨by omega,by simpa using hv,fun j hj=>?_⟩,by simp only;omega,by kernel_rfl,by kernel_rfl⟩;rw[zC6];split
   ·rfl
   ·exact hav j (by omega)
  ·refine zAj 1<|zAc<|zAS ((i:Int)<8) (by omega)<|zAG 2<|zAb<|S_i h<|S_g 1 ?_
   exact rnd (h+1,v) ⟨by omega,hv,fun j hj=>hav j (by omega)⟩ (by simp only;omega)
 ·have hw0:w=replicate 80 (-1):=by
   refine iu (by simp[hw]) fun j h1 h2=>?_;have:=ha j (by omega);rw[zAr h1] at this;rw[this,fJ]
  clear ha;have hw0':begN n cs 0=w:=by rw[hw0];rfl
  clear hw0;refine zAj 1<|zAc<|zAS ((h:Int)<10) (by omega)<|zAG 0<|zAj 3<|zAc<|zAj 6<|zAg 4 ?_
  refine zAu (fun(h,v)=>h<=n.h.toNat/\v=begN n cs h) (fun(h,v)=>[(3,.box (hdV v)),(30,I (h:Nat))]) (fun(h,_)=>n.h.toNat-h) ((0:Nat),w) ⟨by omega,hw0'.symm⟩ fun(h,v) ⟨hh,hv⟩=>?_;have kI:v.length=80:=by rw[hv];exact zMp h
  by_cases wv:(h:Int)<n.h
  ·have yC:=zJu (n:=n) (cs:=cs) (h:=h);rw[<- hv] at yC;refine zAj 1<|zAc<|zAL ((h:Int)<n.h) (by omega)<|zAh<|zAc<|zAg 5<|zAj 2<|zAn 4<|S_a [(0,.n cs.length)] (ap (lnS prV cs) an)<|S_g 1<|zAg 6 ?_
   refine zAu (fun(i,q)=>i<=cs.length/\q=begH n h v (cs.take i)) (fun(i,q)=>[(3,.box (hdV q)),(38,I (i:Nat))]) (fun(i,_)=>cs.length-i) ((0:Nat),v) ⟨by omega,rfl⟩ fun(i,q) ⟨hi,hq⟩=>?_;have wB:q.length=80:=by rw[hq,zL5];exact kI
   by_cases yH:i<cs.length
   ·have qN:=zBP (d:=d0) ho.cs i yH;have yK:=zTS (n:=n) (h:=h) (w:=v) yH;rw[<- hq] at yK;have ww:=zBk hn (cs.getD i d0).1.toNat (by omega);have kY:=hn.nl;have jJ:=qN.2;have wF:0<=(cs.getD i d0).1/\(cs.getD i d0).1<8:=by omega
    have qm:((zAd n).getD (cs.getD i d0).1.toNat 0).toNat<8:=by have:=hn.nl;omega
    clear yC hv hq;refine zAj 1<|zAc<|zAL ((i:Int)<(cs.length:Int)) (by omega)<|zAh<|zAc<|zAg 7<|zAc<|zAb<|S_a [(2,.v (prV (cs.getD i d0)))] (ap (zBN d0 (by omega):(map prV cs)[i]? = some (prV (cs.getD i d0))) an)<|S_g 3<|zAn 4<|S_a [(9,.ret (bool (has (n.s.getD (cs.getD i d0).snd.toNat []) (h:Int))) [])] (ap (f140 n (prs cs) (map pr2 n.l) (zAd n) (zAA n) (by omega) ((h:Int)) ((cs.getD i d0).snd) (by omega)) an)<|zA6<|zEE (has (n.s.getD (cs.getD i d0).snd.toNat []) (h:Int)) (fun k0=>(zAn 5<|S_a [(0,.ob),(1,.ob),(0,.v ((I ((zAd n).getD (cs.getD i d0).fst.toNat 0)).ref))] (ap ((by exact zAl (by omega)):decide (0<=(cs.getD i d0).fst)=true)<|ap ((by exact zAl (by omega)):decide ((cs.getD i d0).fst.toNat<8)=true)<|ap (zDE (F:=zAd n) (m:=8) (j:=(cs.getD i d0).fst.toNat) (by omega):zBT (agg (zAY (zAd n) 8)).ref ((cs.getD i d0).fst.toNat*(fun x=>x.size) Tryz.prog.types[3]) none=some (I ((zAd n).getD (cs.getD i d0).fst.toNat 0)).ref) an)<|S_g 2<|zAb<|zAp 4<|S_a [(2,.ob)] (ap ((by exact zAl (by omega)):decide (h<10)=true) an)<|S_a [(0,.ob),(1,.ob)] (ap ((by exact zAl (by omega)):decide (0<=(zAd n).getD (cs.getD i d0).fst.toNat 0)=true)<|ap ((by exact zAl (by omega)):decide (((zAd n).getD (cs.getD i d0).fst.toNat 0).toNat<8)=true) an)<|S_a [(0,.cs true ([I (q.getD (h*8+((zAd n).getD (cs.getD i d0).fst.toNat 0).toNat) 0)]))] (ap (zB2 (q:=(agg (zAY q 80)).box) (xs:=[agg (zAY q 80)]) (x:=agg (zAY q 80)) rfl rfl (zD5 (F:=q) (m:=80) (j:=h*8+((zAd n).getD (cs.getD i d0).fst.toNat 0).toNat) (by first|rfl|exact zB7 (by kernel_rfl)|exact zB6 (by kernel_rfl)|exact zDl (by kernel_rfl) (by kernel_rfl)|exact zC0 (by kernel_rfl)|exact zDr (by kernel_rfl) (by kernel_rfl)|exact zDg (by kernel_rfl)|(simp;done)) (by omega)):zAo 3 (agg (zAY q 80)).box [] 0 (0+(h:Int).toNat*(fun x=>x.size) Tryz.prog.types[128]+((zAd n).getD (cs.getD i d0).fst.toNat 0).toNat*(fun x=>x.size) Tryz.prog.types[3]) 1=some (true,[I (q.getD (h*8+((zAd n).getD (cs.getD i d0).fst.toNat 0).toNat) 0)])) an)<|zAp 3<|S_a [(9,.ret (I (max (q.getD (h*8+((zAd n).getD (cs.getD i d0).fst.toNat 0).toNat) 0) (cs.getD i d0).fst)) [])] (ap (f165 (q.getD (h*8+((zAd n).getD (cs.getD i d0).fst.toNat 0).toNat) 0) ((cs.getD i d0).fst)) an)<|S_a [(2,.ob)] (ap ((by exact zAl (by omega)):decide (h<10)=true) an)<|S_a [(0,.ob),(1,.ob)] (ap ((by exact zAl (by omega)):decide (0<=(zAd n).getD (cs.getD i d0).fst.toNat 0)=true)<|ap ((by exact zAl (by omega)):decide (((zAd n).getD (cs.getD i d0).fst.toNat 0).toNat<8)=true) an)<|S_a [(8,.root ((agg (zAY (q.set (h*8+((zAd n).getD (cs.getD i d0).fst.toNat 0).toNat) (max (q.getD (h*8+((zAd n).getD (cs.getD i d0).fst.toNat 0).toNat) 0) (cs.getD i d0).fst)) 80)).box) true)] (ap (zRd (zLu (q:=(agg (zAY q 80)).box) (xs:=[agg (zAY q 80)]) (x:=agg (zAY q 80)) (y:=agg (zAY (q.set (h*8+((zAd n).getD (cs.getD i d0).fst.toNat 0).toNat) (max (q.getD (h*8+((zAd n).getD (cs.getD i d0).fst.toNat 0).toNat) 0) (cs.getD i d0).fst)) 80)) (q':=(agg (zAY (q.set (h*8+((zAd n).getD (cs.getD i d0).fst.toNat 0).toNat) (max (q.getD (h*8+((zAd n).getD (cs.getD i d0).fst.toNat 0).toNat) 0) (cs.getD i d0).fst)) 80)).box) rfl (zOm (F:=q) (m:=80) (j:=h*8+((zAd n).getD (cs.getD i d0).fst.toNat 0).toNat) (u:=max (q.getD (h*8+((zAd n).getD (cs.getD i d0).fst.toNat 0).toNat) 0) (cs.getD i d0).fst) (by first|rfl|exact zB7 (by kernel_rfl)|exact zB6 (by kernel_rfl)|exact zDl (by kernel_rfl) (by kernel_rfl)|exact zC0 (by kernel_rfl)|exact zDr (by kernel_rfl) (by kernel_rfl)|exact zDg (by kernel_rfl)|(simp;done)) (by omega) (by omega)) rfl (hb:=zOx (F:=q) (m:=80) (j:=h*8+((zAd n).getD (cs.getD i d0).fst.toNat 0).toNat) (by first|rfl|exact zB7 (by kernel_rfl)|exact zB6 (by kernel_rfl)|exact zDl (by kernel_rfl) (by kernel_rfl)|exact zC0 (by kernel_rfl)|exact zDr (by kernel_rfl) (by kernel_rfl)|exact zDg (by kernel_rfl)|(simp;done)) (by omega))) rfl:zBO (agg (zAY q 80)).box [] 0 (0+(h:Int).toNat*(fun x=>x.size) Tryz.prog.types[128]+((zAd n).getD (cs.getD i d0).fst.toNat 0).toNat*(fun x=>x.size) Tryz.prog.types[3]) (I (max (q.getD (h*8+((zAd n).getD (cs.getD i d0).fst.toNat 0).toNat) 0) (cs.getD i d0).fst)).cells=some (agg (zAY (q.set (h*8+((zAd n).getD (cs.getD i d0).fst.toNat 0).toNat) (max (q.getD (h*8+((zAd n).getD (cs.getD i d0).fst.toNat 0).toNat) 0) (cs.getD i d0).fst)) 80)).box/\zAH (agg (zAY q 80)).box (agg (zAY (q.set (h*8+((zAd n).getD (cs.getD i d0).fst.toNat 0).toNat) (max (q.getD (h*8+((zAd n).getD (cs.getD i d0).fst.toNat 0).toNat) 0) (cs.getD i d0).fst)) 80)).box []=true) an)<|zA6<|zAb<|S_i i<|S_g 1 ?_)) (fun k0=>(zAh<|zAb<|S_i i<|S_g 1 ?_))
    ·rw[begC,if_pos k0] at yK;exact rnd (i+1,zRh q (h*8+((zAd n).getD (cs.getD i d0).1.toNat 0).toNat) (cs.getD i d0).1) ⟨by omega,yK.symm⟩ (by simp only;omega)
    ·rw[begC,if_neg (by rw[k0];simp)] at yK;exact rnd (i+1,q) ⟨by omega,yK.symm⟩ (by simp only;omega)
   ·refine zAj 1<|zAc<|zAS ((i:Int)<(cs.length:Int)) (by omega)<|zAG 6<|zAb<|S_i h<|S_g 1 ?_
    rw[bz (by omega)] at hq;exact rnd (h+1,q) ⟨by omega,by rw[yC,hq]⟩ (by simp only;omega)
  ·have e:h=n.h.toNat:=by omega
   subst e;refine zAj 1<|zAc<|zAS ((n.h.toNat:Int)<n.h) (by omega)<|zAG 4<|zAj 2<|zAm<|E_a [] an (agg (zAY v 80)) [] ?_ rfl
   rw[hv];rfl
theorem zH7{n:Nw}{h o m:Nat}(ho:o∈zG4 n h m):o<m:=by
 simp only[zG4,bP,bC] at ho;exact ho.1
theorem zPv{w:LI}{o i:Nat}(hi:i<8):((w.drop o).take 8).getD i 0=w.getD (o+i) 0:=by
 simp[bK,ck,hi]
theorem f101(n:Nw)(cs:LP)(now:LI)(ho:NwOk n)(hw:now.length=80):FG 101 [zE8 n cs,hdV now] (hdV (zB8 n now)):=by
 have hb:=ho.h;refine zAe Tryz.f101 ?_;refine zAj 2<|zAj 3<|zAc<|zAj 6<|zAg 0 ?_
 refine zAu (fun(h,v)=>h<=n.h.toNat/\v=nxtN n now h) (fun(h,v)=>[(5,.box (hdV v)),(16,I (h:Nat))]) (fun(h,_)=>n.h.toNat-h) ((0:Nat),now) ⟨by omega,rfl⟩ fun(h,v) ⟨hh,hv⟩=>?_;have kI:v.length=80:=by rw[hv,zI6];exact hw
 by_cases wv:(h:Int)<n.h
 ·have yC:=zKy (n:=n) (now:=now) (h:=h);rw[<- hv] at yC;have hA:=zVZ n cs h ho wv;refine zAj 1<|zAc<|zAL ((h:Int)<n.h) (by omega)<|zAh<|zAc<|zAg 1<|zAj 3<|zAn 2<|S_a [(7,.ret (func 169 [] [(zE8 n cs).ref,(I (h:Int)).ref]) [])] (ap (f116 n cs ((h:Int))) an)<|zA6<|zAg 2 ?_
  refine zQd (t:=21) hA (fun j q=>q=nxtH now h v ((zG4 n h n.h.toNat).take j)) (fun q=>[(5,.box (hdV q))]) v rfl (fun j x q hx hq=>?_) (fun q hq=>?_)
  ·rw[ce] at hx;obtain⟨o,hm,rfl⟩:=bm.1 hx;have hj:j<(zG4 n h n.h.toNat).length:=(bf.1 hm).1;have qS:o<n.h.toNat:=zH7 (bG hm);have wB:q.length=80:=by rw[hq,zL2];exact kI
   have yK:=zTX (now:=now) (h:=h) (w:=v) hj;rw[<- hq,show(zG4 n h n.h.toNat).getD j 0=o by simp[bK,hm]] at yK;clear yC hv hA hq hm hj;refine zPW ?_;refine zAb<|S_g 1 ?_
   refine⟨rfl,by kernel_rfl,?_⟩;refine zAg 3<|zAn 1<|S_a [(2,.ob)] (ap ((by exact zAl (by omega)):decide (o<10)=true) an)<|S_a [(0,.cs true (zAY (take 8 (drop (o*8) now)) 8))] (ap (zB2 (q:=(agg (zAY now 80)).box) (xs:=[agg (zAY now 80)]) (x:=agg (zAY now 80)) rfl rfl (zXH (K:=8) (c:=o*8) (by omega) (by first|rfl|exact zB7 (by kernel_rfl)|exact zB6 (by kernel_rfl)|exact zDg (by kernel_rfl)|(simp;done)) (by omega) (by kernel_rfl)):zAo 3 (agg (zAY now 80)).box [] 0 (0+(o:Int).toNat*(fun x=>x.size) Tryz.prog.types[128]) Tryz.prog.types[128].size=some (true,zAY (take 8 (drop (o*8) now)) 8)) an)<|S_g 1<|zAg 4 ?_
   refine zAu (fun(i,p)=>i<=8/\p=nxtR now h o q i) (fun(i,p)=>[(5,.box (hdV p)),(26,I (i:Nat))]) (fun(i,_)=>8-i) ((0:Nat),q) ⟨by omega,rfl⟩ fun(i,p) ⟨hi,hp⟩=>?_;have vV:p.length=80:=by rw[hp,zHt];exact wB
   by_cases yH:i<8
   ·have ji:=zJK (now:=now) (w:=q) (h:=h) (o:=o) (k:=i);rw[<- hp,<- zPv yH] at ji;refine zAj 1<|zAc<|zAL ((i:Int)<8) (by omega)<|zAh<|zAc<|zAg 5<|zAn 1<|S_a [(2,.ob),(0,.v (I ((take 8 (drop (o*8) now)).getD i 0)))] (ap ((by exact zAl (by omega)):decide (i<8)=true)<|ap (zPC (F:=take 8 (drop (o*8) now)) (m:=8) (j:=i) (by omega):sub (agg (zAY (take 8 (drop (o*8) now)) 8)) (i*(fun x=>x.size) Tryz.prog.types[3]) none=some (I ((take 8 (drop (o*8) now)).getD i 0))) an)<|S_g 2<|zAb<|zAp 4<|S_a [(2,.ob)] (ap ((by exact zAl (by omega)):decide (h<10)=true) an)<|S_a [(2,.ob)] (ap ((by exact zAl (by omega)):decide (i<8)=true) an)<|S_a [(0,.cs true ([I (p.getD (h*8+i) 0)]))] (ap (zB2 (q:=(agg (zAY p 80)).box) (xs:=[agg (zAY p 80)]) (x:=agg (zAY p 80)) rfl rfl (zD5 (F:=p) (m:=80) (j:=h*8+i) (by first|rfl|exact zB7 (by kernel_rfl)|exact zB6 (by kernel_rfl)|exact zDl (by kernel_rfl) (by kernel_rfl)|exact zC0 (by kernel_rfl)|exact zDr (by kernel_rfl) (by kernel_rfl)|exact zDg (by kernel_rfl)|(simp;done)) (by omega)):zAo 5 (agg (zAY p 80)).box [] 0 (0+(h:Int).toNat*(fun x=>x.size) Tryz.prog.types[128]+(i:Int).toNat*(fun x=>x.size) Tryz.prog.types[3]) 1=some (true,[I (p.getD (h*8+i) 0)])) an)<|zAp 2<|S_a [(9,.ret (I (max (p.getD (h*8+i) 0) ((take 8 (drop (o*8) now)).getD i 0))) [])] (ap (f165 (p.getD (h*8+i) 0) ((take 8 (drop (o*8) now)).getD i 0)) an)<|S_a [(2,.ob)] (ap ((by exact zAl (by omega)):decide (h<10)=true) an)<|S_a [(2,.ob)] (ap ((by exact zAl (by omega)):decide (i<8)=true) an)<|S_a [(8,.root ((agg (zAY (p.set (h*8+i) (max (p.getD (h*8+i) 0) ((take 8 (drop (o*8) now)).getD i 0))) 80)).box) true)] (ap (zRd (zLu (q:=(agg (zAY p 80)).box) (xs:=[agg (zAY p 80)]) (x:=agg (zAY p 80)) (y:=agg (zAY (p.set (h*8+i) (max (p.getD (h*8+i) 0) ((take 8 (drop (o*8) now)).getD i 0))) 80)) (q':=(agg (zAY (p.set (h*8+i) (max (p.getD (h*8+i) 0) ((take 8 (drop (o*8) now)).getD i 0))) 80)).box) rfl (zOm (F:=p) (m:=80) (j:=h*8+i) (u:=max (p.getD (h*8+i) 0) ((take 8 (drop (o*8) now)).getD i 0)) (by first|rfl|exact zB7 (by kernel_rfl)|exact zB6 (by kernel_rfl)|exact zDl (by kernel_rfl) (by kernel_rfl)|exact zC0 (by kernel_rfl)|exact zDr (by kernel_rfl) (by kernel_rfl)|exact zDg (by kernel_rfl)|(simp;done)) (by omega) (by omega)) rfl (hb:=zOx (F:=p) (m:=80) (j:=h*8+i) (by first|rfl|exact zB7 (by kernel_rfl)|exact zB6 (by kernel_rfl)|exact zDl (by kernel_rfl) (by kernel_rfl)|exact zC0 (by kernel_rfl)|exact zDr (by kernel_rfl) (by kernel_rfl)|exact zDg (by kernel_rfl)|(simp;done)) (by omega))) rfl:zBO (agg (zAY p 80)).box [] 0 (0+(h:Int).toNat*(fun x=>x.size) Tryz.prog.types[128]+(i:Int).toNat*(fun x=>x.size) Tryz.prog.types[3]) (I (max (p.getD (h*8+i) 0) ((take 8 (drop (o*8) now)).getD i 0))).cells=some (agg (zAY (p.set (h*8+i) (max (p.getD (h*8+i) 0) ((take 8 (drop (o*8) now)).getD i 0))) 80)).box/\zAH (agg (zAY p 80)).box (agg (zAY (p.set (h*8+i) (max (p.getD (h*8+i) 0) ((take 8 (drop (o*8) now)).getD i 0))) 80)).box []=true) an)<|zA6<|zAb<|S_i i<|S_g 1 ?_
    exact rnd (i+1,_) ⟨by omega,ji.symm⟩ (by simp only;omega)
   ·refine zAj 1<|zAc<|zAS ((i:Int)<8) (by omega)<|zAG 4 ?_
    rw[show i=8 by omega] at hp;exact⟨by kernel_rfl,p,by rw[yK,hp],by kernel_rfl⟩
  ·rw[be,cF] at hq;show W _ _ _ _ _ _ _ _
   refine zAb<|S_i h<|S_g 1 ?_
   exact rnd (h+1,q) ⟨by omega,by rw[yC,hq]⟩ (by simp only;omega)
 ·have e:h=n.h.toNat:=by omega
  subst e;refine zAj 1<|zAc<|zAS ((n.h.toNat:Int)<n.h) (by omega)<|zAG 0<|zAj 2<|zAm<|E_a [] an (agg (zAY v 80)) [] ?_ rfl
  rw[hv];rfl
end Go.Eng
set_option maxRecDepth 10000
set_option maxHeartbeats 4000000
namespace Go.Eng
open Go Go.Proofs
def zIX(n:Nw)(w:LI)(h i:Nat):Bool:=decide (w.getD (h*8+((zAd n).getD i 0).toNat) 0=i)&&decide ((zAA n).getD i 0≠i)
def zN2(n:Nw)(w:LI)(h k:Nat):LP:=((range k).filter fun i=>zIX n w h i).map fun(i:Nat)=>((h:Int),(i:Int))
def zUz(n:Nw)(w:LI)(h:Nat):LP:=(range h).flatMap fun h=>zN2 n w h n.n.length
def zAV(n:Nw)(w:LI):LP:=zUz n w n.h.toNat
theorem zSn{n:Nw}{w:LI}{h k:Nat}:zN2 n w h (k+1)=if zIX n w h k=true then zN2 n w h k++[((h:Int),(k:Int))] else zN2 n w h k:=by
 unfold zN2;rw[cw,db,cB];by_cases hn:zIX n w h k=true
 ·rw[if_pos hn];simp[hn]
 ·rw[if_neg hn];simp[hn]
theorem zNK{n:Nw}{w:LI}{h:Nat}:zUz n w (h+1)=zUz n w h++zN2 n w h n.n.length:=by
 unfold zUz;rw[cw,f5];simp
theorem zPk{n:Nw}{w:LI}{h k:Nat}:(zN2 n w h k).length<=k:=by
 unfold zN2;rw[be];exact bF (bU _ _) (by simp)
theorem zMk{n:Nw}{w:LI}:∀ h,(zUz n w h).length<=h*n.n.length
 |0=>by simp[zUz]|h+1=>by
  have h1:=zMk (n:=n) (w:=w) h;have h2:=zPk (n:=n) (w:=w) (h:=h) (k:=n.n.length);rw[zNK,bA,cW];omega
theorem zEj{n:Nw}{w:LI}(ho:NwOk n):(zAV n w).length<=80:=by
 have h1:=zMk (n:=n) (w:=w) n.h.toNat;have h2:=ho.h;have h3:=ho.nl;have h4:n.h.toNat*n.n.length<=10*8:=f9 (by omega) (by omega);unfold zAV;omega
theorem f92(n:Nw)(cs:LP)(e:Int)(ho:CrW n cs)(he:0<=e/\e<=1000):FG 92 [zE8 n cs,I e] (hdV (zAD n cs e.toNat)):=by
 have hn:=ho.nw;refine zAe Tryz.f92 ?_;refine zAj 1<|zAn 1<|S_a [(5,.ret (hdV (zIi n cs)) [])] (ap (f100 n cs (by omega)) an)<|S_g 2<|zAc<|zAj 2<|zAg 0 ?_
 refine zAu (fun(k,w)=>k<=e.toNat/\w=zAD n cs k) (fun(k,w)=>[(5,.box (hdV w)),(9,I (k:Nat))]) (fun(k,_)=>e.toNat-k) ((0:Nat),zIi n cs) ⟨by omega,rfl⟩ fun(k,w) ⟨hk,hw⟩=>?_;have wx:w.length=80:=by rw[hw];exact zBr k
 by_cases w6:(k:Int)<e
 ·refine zAj 1<|zAc<|zAL ((k:Int)<e) (by omega)<|zAh<|zAc<|zAg 1<|zAb<|zAp 2<|S_a [(7,.ret (hdV (zB8 n w)) [])] (ap (f101 n cs w (by omega) (by omega)) an)<|S_g 1<|zAb<|S_i k<|S_g 1 ?_
  exact rnd (k+1,zB8 n w) ⟨by omega,by rw[hw];rfl⟩ (by simp only;omega)
 ·refine zAj 1<|zAc<|zAS ((k:Int)<e) (by omega)<|zAG 0<|zAj 2<|zAm<|E_a [] an (agg (zAY w 80)) [] ?_ rfl
  rw[hw,show k=e.toNat by omega]
theorem f91(n:Nw)(cs:LP)(w:LI)(ho:NwOk n)(hw:w.length=80):FG 91 [zE8 n cs,hdV w] (.own 2 ((zAV n w).map prV)):=by
 have hb:=ho.h;have kY:=ho.nl;refine zAe Tryz.f91 ?_;refine zAj 2<|zAj 1<|zAc<|zAj 6<|zAg 0 ?_
 refine zAu (fun(h,l)=>h<=n.h.toNat/\l=zUz n w h) (fun(h,l)=>[(5,.own 2 (l.map prV)),(13,I (h:Nat))]) (fun(h,_)=>n.h.toNat-h) ((0:Nat),([]:LP)) ⟨by omega,rfl⟩ fun(h,l) ⟨hh,hl⟩=>?_;have gA:l.length<=h*8:=by
  have h1:=zMk (n:=n) (w:=w) h;rw[<- hl] at h1;exact bF h1 (f9 (bi _) (by omega))
 by_cases wv:(h:Int)<n.h
 ·have yC:=zNK (n:=n) (w:=w) (h:=h);rw[<- hl] at yC;refine zAj 1<|zAc<|zAL ((h:Int)<n.h) (by omega)<|zAh<|zAc<|zAg 1<|zAj 2<|zAn 5<|S_a [(0,.n n.n.length)] (ap (lnS ntV n.n) an)<|S_g 1<|zAg 2 ?_
  refine zAu (fun(i,m)=>i<=n.n.length/\m=l++zN2 n w h i) (fun(i,m)=>[(5,.own 2 (m.map prV)),(22,I (i:Nat))]) (fun(i,_)=>n.n.length-i) ((0:Nat),l) ⟨by omega,by simp[zN2]⟩ fun(i,m) ⟨hi,hm⟩=>?_;have hml:m.length<=88:=by
   have:=zPk (n:=n) (w:=w) (h:=h) (k:=i);rw[hm,bA];omega
  by_cases yH:i<n.n.length
  ·have ji:=zSn (n:=n) (w:=w) (h:=h) (k:=i);have ww:=zBk ho i yH;have qm:0<=(zAd n).getD i 0/\(zAd n).getD i 0<8:=by omega
   clear yC;have jA:zIX n w h i=false->m=l++zN2 n w h (i+1):=fun hg=>by rw[ji,if_neg (by rw[hg];simp)];exact hm
   refine zAj 1<|zAc<|zAL ((i:Int)<(n.n.length:Int)) (by omega)<|zAh<|zAc<|zAg 3<|zAj 2<|zAn 5<|S_a [(2,.ob),(0,.v ((I ((zAd n).getD i 0)).ref))] (ap ((by exact zAl (by omega)):decide (i<8)=true)<|ap (zDE (F:=zAd n) (m:=8) (j:=i) (by omega):zBT (agg (zAY (zAd n) 8)).ref (i*(fun x=>x.size) Tryz.prog.types[3]) none=some (I ((zAd n).getD i 0)).ref) an)<|zAp 1<|S_a [(2,.ob)] (ap ((by exact zAl (by omega)):decide (h<10)=true) an)<|S_a [(0,.ob),(1,.ob)] (ap ((by exact zAl (by omega)):decide (0<=(zAd n).getD i 0)=true)<|ap ((by exact zAl (by omega)):decide (((zAd n).getD i 0).toNat<8)=true) an)<|S_a [(0,.cs true ([I (w.getD (h*8+((zAd n).getD i 0).toNat) 0)]))] (ap (zB2 (q:=(agg (zAY w 80)).box) (xs:=[agg (zAY w 80)]) (x:=agg (zAY w 80)) rfl rfl (zD5 (F:=w) (m:=80) (j:=h*8+((zAd n).getD i 0).toNat) (by first|rfl|exact zB7 (by kernel_rfl)|exact zB6 (by kernel_rfl)|exact zDl (by kernel_rfl) (by kernel_rfl)|exact zC0 (by kernel_rfl)|exact zDr (by kernel_rfl) (by kernel_rfl)|exact zDg (by kernel_rfl)|(simp;done)) (by omega)):zAo 3 (agg (zAY w 80)).box [] 0 (0+(h:Int).toNat*(fun x=>x.size) Tryz.prog.types[128]+((zAd n).getD i 0).toNat*(fun x=>x.size) Tryz.prog.types[3]) 1=some (true,[I (w.getD (h*8+((zAd n).getD i 0).toNat) 0)])) an)<|zAp 3<|zJ5 37 (w.getD (h*8+((zAd n).getD i 0).toNat) 0=(i:Int)) (fun k0=>(zAp 4<|S_a [(2,.ob),(0,.v ((I ((zAA n).getD i 0)).ref))] (ap ((by exact zAl (by omega)):decide (i<8)=true)<|ap (zDE (F:=zAA n) (m:=8) (j:=i) (by omega):zBT (agg (zAY (zAA n) 8)).ref (i*(fun x=>x.size) Tryz.prog.types[3]) none=some (I ((zAA n).getD i 0)).ref) an)<|S_g 4<|zDZ ((zAA n).getD i 0=(i:Int)) (fun k1=>(zAb<|zAp 5<|S_a [(4,.ob),(0,.ob),(0,.yes),(2,.v (own 2 (map prV (m++[((h:Int),(i:Int))]))))] (ap (blz (map prV m))<|ap ((by exact zAP (by simp only[be,zzLn,zAJ]<;>omega)):((map prV m).length + [agg [I (h:Int),I (i:Int)]].length).ble zAJ=true)<|ap ((by exact zBj (by simp<;>omega)):(0+(map prV m).length).beq (map prV m).length=true)<|ap ((zAQ (zBF (by kernel_rfl))):own 2 (map prV m++[agg [I (h:Int),I (i:Int)]])=own 2 (map prV (m++[((h:Int),(i:Int))]))) an)<|S_g 1<|zAb<|S_i i<|S_g 1 ?_)) (fun k1=>(zAh<|zAb<|S_i i<|S_g 1 ?_)))) (fun k0=>(S_g 9<|zAB<|zAh<|zAb<|S_i i<|S_g 1 ?_))
   ·have hg:zIX n w h i=true:=by simp only[zIX,decide_eq_true k0,cR,decide_eq_true_eq];exact k1
    exact rnd (i+1,m++[((h:Int),(i:Int))]) ⟨by omega,by rw[ji,if_pos hg,hm,cx]⟩ (by simp only;omega)
   ·exact rnd (i+1,m) ⟨by omega,jA (by simp only[zIX,decide_eq_true k0,cR,decide_eq_false_iff_not];exact fun h=>h k1)⟩ (by simp only;omega)
   ·exact rnd (i+1,m) ⟨by omega,jA (by simp only[zIX,decide_eq_false k0,cX])⟩ (by simp only;omega)
  ·refine zAj 1<|zAc<|zAS ((i:Int)<(n.n.length:Int)) (by omega)<|zAG 2<|zAb<|S_i h<|S_g 1 ?_
   exact rnd (h+1,m) ⟨by omega,by rw[yC,hm,show i=n.n.length by omega]⟩ (by simp only;omega)
 ·have e:h=n.h.toNat:=by omega
  subst e;refine zAj 1<|zAc<|zAS ((n.h.toNat:Int)<n.h) (by omega)<|zAG 0<|zAn 1<|S_a [(2,.yes)] (ap ((by exact zBj (by simp<;>omega)):(beq 0 0&&(map prV l).length.beq (map prV l).length)=true) an)<|zA6<|zAm<|E_a [(1,.yes),(1,.v (own 2 (map prV l)))] (ap (blz (map prV l))<|ap ((zAQ zAW):own 2 (take (map prV l).length (drop 0 (map prV l)))=own 2 (map prV l)) an) (own 2 (map prV l)) [] ?_ rfl
  rw[hl];rfl
theorem f22_1(n:Nw)(cs:LP)(e:Int)(ho:EvOk n cs e):FG 22 [nwV n,prs cs,I e] (.tup [.own 2 ((zAV n (zAD n cs e.toNat)).map prV),I 0]):=by
 have hc:=ho.cr;have jr:=hc.w;have hn:=hc.nw;have he:=ho.ev;have hw:=zBr (n:=n) (cs:=cs) e.toNat;refine zAe Tryz.f22 ?_;refine zAj 3<|zAn 3<|S_a [(10,.ret (tup [zE8 n cs,I 0]) [])] (ap (f90_1 n cs e (by omega)) an)<|S_g 5<|zAc<|zAj 2<|zAB<|zAh<|zAn 3<|S_a [(7,.ret (hdV (zAD n cs e.toNat)) [])] (ap (f92 n cs e (by omega) (by omega)) an)<|S_a [(7,.ret (own 2 (map prV (zAV n (zAD n cs e.toNat)))) [])] (ap (f91 n cs (zAD n cs e.toNat) (by omega) (by omega)) an)<|S_g 2<|zAm<|E_z [(1,.yes),(1,.v (own 2 (map prV (zAV n (zAD n cs e.toNat)))))] (ap (blz (map prV (zAV n (zAD n cs e.toNat))))<|ap ((zAQ zAW):own 2 (take (map prV (zAV n (zAD n cs e.toNat))).length (drop 0 (map prV (zAV n (zAD n cs e.toNat)))))=own 2 (map prV (zAV n (zAD n cs e.toNat)))) an)
def msl(n:Nw)(l:LP):LI:=(l.filter fun g=>!(n.n.getD g.2.toNat d0).2).map Prod.fst
theorem zUD{n:Nw}{l:LP}{i:Nat}(hi:i<l.length):msl n (l.take (i+1))=if (n.n.getD (l.getD i d0).2.toNat d0).2=true then msl n (l.take i) else msl n (l.take i)++[(l.getD i d0).1]:=by
 unfold msl;rw[zBI (d:=d0) hi,db,cB];generalize l.getD i d0=g;cases hb:(n.n.getD g.2.toNat d0).2
 ·rw[fc (by rw[hb];rfl)];rfl
 ·rw[cG (by rw[hb];simp)];simp
theorem zFQ{n:Nw}{w:LI}{g:Int×Int}(hg:g∈zAV n w):∃ h i:Nat,h<n.h.toNat/\i<n.n.length/\g=((h:Int),(i:Int))/\zIX n w h i=true:=by
 simp only[zAV,zUz,cT,bC,zN2,bT,bP] at hg;obtain⟨h,hh,i,⟨hi,hb⟩,rfl⟩:=hg;exact⟨h,i,hh,hi,rfl,hb⟩
theorem f26_1(n:Nw)(cs:LP)(e:Int)(ho:EvOk n cs e):FG 26 [nwV n,prs cs,I e] (.tup [.own 1 ((zHn (msl n (zAV n (zAD n cs e.toNat)))).map I),I 0]):=by
 have hn:=ho.cr.nw;have hZ:=zEj (w:=zAD n cs e.toNat) hn;have jE:∀ g∈zAV n (zAD n cs e.toNat),0<=g.2/\g.2<n.n.length:=fun g hg=>by
  obtain⟨h,i,h1,h2,rfl,_⟩:=zFQ hg;simp only;omega
 have h1:=f22_1 n cs e ho;generalize zAV n (zAD n cs e.toNat)=G at *;refine zAe Tryz.f26 ?_;refine zAj 3<|zAn 3<|S_a [(10,.ret (tup [own 2 (map prV G),I 0]) [])] (ap h1 an)<|S_g 5<|zAc<|zAj 2<|zAB<|zAh<|zAj 1<|zAc<|zAn 1<|S_a [(0,.n G.length)] (ap (lnS prV G) an)<|S_g 1<|zAg 0 ?_
 refine zAu (fun(i,l)=>i<=G.length/\l=msl n (G.take i)) (fun(i,l)=>[(10,.own 1 (l.map I)),(25,I (i:Nat))]) (fun(i,_)=>G.length-i) ((0:Nat),([]:LI)) ⟨by omega,by simp[msl]⟩ fun(i,l) ⟨hi,hl⟩=>?_;have gA:l.length<=i:=by
  rw[hl,msl,be];exact bF (bU _ _) (by rw[bY];omega)
 by_cases yH:i<G.length
 ·have yK:=zUD (n:=n) yH;rw[<- hl] at yK;have vU:=zBP (d:=d0) jE i yH;clear h1 jE;refine zAj 1<|zAc<|zAL ((i:Int)<(G.length:Int)) (by omega)<|zAh<|zAc<|zAg 1<|zAc<|zAb<|S_a [(2,.ob),(1,.n i)] (ap ((by exact zAl (by simp only[be,zzLn]<;>omega)):decide (i<(map prV G).length)=true)<|ap ((by simp):some (0+i)=some i) an)<|S_a [(0,.cs true ([I (G.getD i d0).fst,I (G.getD i d0).snd]))] (ap (zB2 (q:=own 2 (map prV G)) (xs:=map prV G) (x:=prV (G.getD i d0)) rfl (zBN d0 (by omega)):zAo 8 (own 2 (map prV G)) [] i 0 Tryz.prog.types[108].size=some (true,[I (G.getD i d0).fst,I (G.getD i d0).snd])) an)<|S_g 2<|zAn 4<|S_a [(0,.ob),(1,.v (agg [I (n.n.getD (G.getD i d0).snd.toNat d0).fst,bool (n.n.getD (G.getD i d0).snd.toNat d0).snd]))] (ap ((by exact zAl (by omega)):decide (0<=(G.getD i d0).snd)=true)<|ap (zBN d0 (by omega):(map ntV n.n)[(G.getD i d0).snd.toNat]? = some (agg [I (n.n.getD (G.getD i d0).snd.toNat d0).fst,bool (n.n.getD (G.getD i d0).snd.toNat d0).snd])) an)<|S_g 3<|zEE (!(n.n.getD (G.getD i d0).snd.toNat d0).snd) (fun k0=>(zAb<|zAp 4<|S_a [(4,.ob),(0,.ob),(0,.yes),(2,.v (own 1 (map I (l++[(G.getD i d0).fst]))))] (ap (blz (map I l))<|ap ((by exact zAP (by simp only[be,zzLn,zAJ]<;>omega)):((map I l).length + [I (G.getD i d0).fst].length).ble zAJ=true)<|ap ((by exact zBj (by simp<;>omega)):(0+(map I l).length).beq (map I l).length=true)<|ap ((zAQ (zBF (by kernel_rfl))):own 1 (map I l++[I (G.getD i d0).fst])=own 1 (map I (l++[(G.getD i d0).fst]))) an)<|S_g 1<|zAb<|S_i i<|S_g 1 ?_)) (fun k0=>(zAh<|zAb<|S_i i<|S_g 1 ?_))
  ·rw[bD] at k0;rw[if_neg (by rw[k0];simp)] at yK;exact rnd (i+1,l++[(G.getD i d0).1]) ⟨by omega,yK.symm⟩ (by simp only;omega)
  ·rw[bB] at k0;rw[if_pos k0] at yK;exact rnd (i+1,l) ⟨by omega,yK.symm⟩ (by simp only;omega)
 ·rw[bz (by omega)] at hl;rw[<- hl];clear h1 jE;refine zAj 1<|zAc<|zAS ((i:Int)<(G.length:Int)) (by omega)<|zAG 0<|zAn 1<|S_a [(3,.ob),(1,.v (own 1 (map I l))),(2,.ret (own 1 (map I (zHn l))) [])] (ap ((by exact zAP (by simp only[be,zzLn,zAJ]<;>omega)):(map I l).length.ble (map I l).length=true)<|ap ((zAQ zAW):own 1 (take (map I l).length (drop 0 (map I l)))=own 1 (map I l))<|ap (f97 l (by omega)) an)<|S_g 2<|zAm<|E_z [(1,.yes),(1,.v (own 1 (map I (zHn l))))] (ap (blz (map I (zHn l)))<|ap ((zAQ zAW):own 1 (take (map I (zHn l)).length (drop 0 (map I (zHn l))))=own 1 (map I (zHn l))) an)
theorem f29_1(n:Nw)(cs:LP)(k:Nat)(ho:CrOk n cs)(hk:k<=1000)(he:zAD n cs (k+1)=zAD n cs k)(hm:∀ j,j<k->zAD n cs (j+1)≠zAD n cs j):FG 29 [nwV n,prs cs] (.tup [I k,I 0]):=by
 have hn:=ho.nw;have jr:=ho.w;have y8:=zP7 (n:=n) (cs:=cs);refine zAe Tryz.f29 ?_;refine zAj 3<|zAn 2<|S_a [(8,.ret (tup [zE8 n cs,I 0]) [])] (ap (f99_1 n cs (by omega)) an)<|S_g 5<|zAc<|zAj 2<|zAB<|zAh<|zAn 1<|S_a [(5,.ret (hdV (zIi n cs)) [])] (ap (f100 n cs (by omega)) an)<|S_g 3<|zAc<|zAn 2<|S_a [(7,.ret (hdV (zB8 n (zIi n cs))) [])] (ap (f101 n cs (zIi n cs) (by omega) (by omega)) an)<|S_g 2<|zAg 0 ?_
 refine zAu (fun j=>j<=k) (fun(j:Nat)=>[(8,I (j:Nat)),(9,.box (hdV (zAD n cs j))),(10,.box (hdV (zAD n cs (j+1))))]) (fun j=>k-j) (0:Nat) (by omega) fun j hj=>?_;have wE:=zBr (n:=n) (cs:=cs) j;have qR:=zBr (n:=n) (cs:=cs) (j+1);by_cases hjk:j<k
 ·have hI:=hm j hjk;refine zAc<|zAn 2<|S_a [(0,.v (bool !decide (zAD n cs (j+1)=zAD n cs j)))] (ap (zSR 80 (by omega) (by omega):zHT Tryz.prog BinOp.neq 130 (agg (zAY (zAD n cs (j+1)) 80)) (agg (zAY (zAD n cs j) 80))=some (bool !decide (zAD n cs (j+1)=zAD n cs j))) an)<|zA6<|zIb (zAD n cs (j+1)=zAD n cs j) (by omega)<|zAh<|zAc<|zAg 1<|zAj 2<|zAb<|zAp 1<|S_i j<|S_g 1<|zAc<|zAj 1<|zAb<|S_g 2<|zAb<|zAp 2<|S_a [(7,.ret (hdV (zB8 n (zAD n cs (j+1)))) [])] (ap (f101 n cs (zAD n cs (j+1)) (by omega) (by omega)) an)<|S_g 1 ?_
  exact rnd (j+1) (by omega) (by omega)
 ·have e:j=k:=by omega
  subst e;refine zAc<|zAn 2<|S_a [(0,.v (bool !decide (zAD n cs (j+1)=zAD n cs j)))] (ap (zSR 80 (by omega) (by omega):zHT Tryz.prog BinOp.neq 130 (agg (zAY (zAD n cs (j+1)) 80)) (agg (zAY (zAD n cs j) 80))=some (bool !decide (zAD n cs (j+1)=zAD n cs j))) an)<|zA6<|zH6 (zAD n cs (j+1)=zAD n cs j) (by omega)<|zAG 0<|zAj 3<|zAm E_0
def zWS(n:Nw)(cs:LP)(k:Nat):Int:=(range k).foldl (fun a k=>if zAV n (zAD n cs k)=[] then a else(k:Int)+1) 0
theorem zTI{n:Nw}{cs:LP}{k:Nat}:zWS n cs (k+1)=if zAV n (zAD n cs k)=[] then zWS n cs k else(k:Int)+1:=by
 simp only[zWS,cw,cH,bZ,cM]
theorem f31_1(n:Nw)(cs:LP)(ho:CrOk n cs):FG 31 [nwV n,prs cs] (.tup [if zAV n (zAD n cs 12)=[] then I (zWS n cs 12) else I 0,if zAV n (zAD n cs 12)=[] then I 0 else I 6]):=by
 have hn:=ho.nw;have jr:=ho.w;refine zAe Tryz.f31 ?_;refine zAj 3<|zAn 2<|S_a [(8,.ret (tup [zE8 n cs,I 0]) [])] (ap (f99_1 n cs (by omega)) an)<|S_g 5<|zAc<|zAj 2<|zAB<|zAh<|zAn 1<|S_a [(5,.ret (hdV (zIi n cs)) [])] (ap (f100 n cs (by omega)) an)<|S_g 3<|zAc<|zAj 1<|zAg 0 ?_
 refine zAu (fun k=>k<=12) (fun(k:Nat)=>[(8,I (zWS n cs k)),(9,.box (hdV (zAD n cs k))),(22,I (k:Nat))]) (fun k=>12-k) (0:Nat) (by omega) fun k hk=>?_;have wE:=zBr (n:=n) (cs:=cs) k;have gi:=zEj (w:=zAD n cs k) hn;by_cases w6:k<12
 ·have ji:=zTI (n:=n) (cs:=cs) (k:=k);refine zAj 1<|zAc<|zAL ((k:Int)<12) (by omega)<|zAh<|zAc<|zAg 1<|zAj 2<|zAc<|zAn 2<|S_a [(7,.ret (own 2 (map prV (zAV n (zAD n cs k)))) [])] (ap (f91 n cs (zAD n cs k) (by omega) (by omega)) an)<|S_a [(0,.n ((zAV n (zAD n cs k)).length))] (ap (lnS prV (zAV n (zAD n cs k))) an)<|S_g 1<|zC4 ((↑(zAV n (zAD n cs k)).length:Int)>0) (fun k1=>(zAb<|zAp 1<|S_i k<|S_g 1<|zAb<|zAp 2<|S_a [(7,.ret (hdV (zB8 n (zAD n cs k))) [])] (ap (f101 n cs (zAD n cs k) (by omega) (by omega)) an)<|S_g 1<|zAb<|S_i k<|S_g 1 ?_)) (fun k1=>(zAh<|zAb<|zAp 2<|S_a [(7,.ret (hdV (zB8 n (zAD n cs k))) [])] (ap (f101 n cs (zAD n cs k) (by omega) (by omega)) an)<|S_g 1<|zAb<|S_i k<|S_g 1 ?_))
  ·rw[if_neg (by intro h;rw[h] at k1;simp at k1)] at ji;exact⟨k+1,by omega,by omega,by rw[ji];kernel_rfl,by kernel_rfl⟩
  ·rw[if_pos (bq (by omega))] at ji;exact⟨k+1,by omega,by omega,by rw[ji];kernel_rfl,by kernel_rfl⟩
 ·have e:k=12:=by omega
  subst e;refine zAj 1<|zAc<|zAB<|zAG 0<|zAc<|zAn 2<|S_a [(7,.ret (own 2 (map prV (zAV n (zAD n cs 12)))) [])] (ap (f91 n cs (zAD n cs 12) (by omega) (by omega)) an)<|S_a [(0,.n ((zAV n (zAD n cs 12)).length))] (ap (lnS prV (zAV n (zAD n cs 12))) an)<|S_g 1<|zC4 ((↑(zAV n (zAD n cs 12)).length:Int)>0) (fun k0=>(zAj 2<|zAm<|E_a [] an (tup [I 0,I 6]) [] ?_ rfl)) (fun k0=>(zAh<|zAj 3<|zAm<|E_a [] an (tup [I (zWS n cs 12),I 0]) [] ?_ rfl))
  ·have h:¬ zAV n (zAD n cs 12)=[]:=by intro h;rw[h] at k0;simp at k0
   rw[if_neg h,if_neg h]
  ·have h:zAV n (zAD n cs 12)=[]:=bq (by omega);rw[if_pos h,if_pos h]
end Go.Eng
